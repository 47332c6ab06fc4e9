/-
 A program logic over the walk's rules, joined: the rules by which a goal is worked out. Conditions: those that each lemma names.
-/
import Derived.Test.YtjimcmbfljdelaaGreatDoorGlB
import Derived.Below
import Derived.LaidMore
import Derived.OpenShut
import Derived.Lib.SmallJoins
import Derived.Laws.AppendOwn
set_option linter.unusedSimpArgs false
set_option linter.unusedVariables false
set_option linter.unusedSectionVars false
variable{f g:Go.FuncId}{a args c c' caps q res xs ys zs:List Go.Gl.PV}{pl rd rd' ts:List Nat}{id id' j k k' l' len len' n o off off' r t ty:Nat}{as:List Go.Gl.Arg}{x:Go.Gl.PV}{b m m' mm mt p tk want:Bool}{no yes:Prop}{v:Go.Gl.AV}{bs l ws ws':List (Nat×Go.Gl.Blk)}{kd kd':Go.IntKind}{cells vs:List Go.Gl.AV}{F G:Nat->Prop}{s s':List UInt8}{w:Go.World}{d z:Int}{cs cs':List Go.Gl.DC}{outs rs rs':List (Option (List Go.Gl.PV))}
namespace Go.Gl
open Go
variable [Amb]
def ig(nt:Nat):Code->Bool
 | .region _ ops false=>rI nt ops
 | .region _ ops true=>rI nt ops&&wZ ops
 | .seq a b=>ig nt a&&ig nt b
 | .cond _ a b=>ig nt a&&ig nt b
 | .block _ c=>ig nt c
 | .loop c=>ig nt c
 |_=>true
section
variable {P:Program}{sg:FuncId->List Bool}{nt:Nat}
def ka(P:Program)(sg:FuncId->List Bool):Code->(Ex->St->Prop)->St->Prop
 | .skip,Q,S=>Q .normal S
 | .region _ ops false,Q,S=>rR P sg ops S.n ops.toList 0 S λS'=>Q .normal (S'.nx (256*ops.size))
 | .region _ ops true,Q,S=>qF P sg ops S.n ops.toList 0 S [] λS' L=>lj ops L/\Q .normal (S'.nx (256*ops.size))
 | .seq a b,Q,S=>ka P sg a (λex S'=>match ex with| .normal=>ka P sg b Q S'|ex=>Q ex S') S
 | .cond c a b,Q,S=>match BH S c with
  | .p (.bool t)=>(t=true->ka P sg a Q S)/\(t=false->ka P sg b Q S)
  |_=>False
 | .block id c,Q,S=>ka P sg c (λex S'=>match ex with| .exit j=>if j=id then Q .normal S' else Q (.exit j) S'|ex=>Q ex S') S
 | .loop c,Q,S=>∃I:Nat->St->Prop,(∃n,I n S)/\∀n S,I n S->ka P sg c (λex S'=>match ex with| .normal=>∃m,m<n/\I m S'|ex=>Q ex S') S
 | .exit id,Q,S=>Q (.exit id) S
 | .ret,Q,S=>Q .ret S
 |_,_,_=>False
theorem wp_mono:∀(c:Code) {Q Q':Ex->St->Prop} {S:St},(∀ex S',Q ex S'->Q' ex S')->Gl.wp P sg nt c Q S->Gl.wp P sg nt c Q' S:=by
 have opsM:∀{ops:Array Oper} {n0:Nat} (os:List Oper) (i:Nat) (S:St) {K K':St->Prop},(∀S,K S->K' S)->rR P sg ops n0 os i S K->rR P sg ops n0 os i S K':=by
  intro ops n0 os
  induction os with
  |nil=>intro i S K K' h hk;exact h _ hk
  |cons o os ih=>
   intro i S K K' h hk;simp only[rR]at hk |-
   exact oJ (λhy=>vQ hy λr hr=>ih _ _ h hr) (λhn=>ih _ _ h hn) hk
 have opsDM:∀{ops:Array Oper} {n0:Nat} (os:List Oper) (i:Nat) (S:St) L {K K':St->List (List (Nat×Blk)×List Nat)->Prop},(∀S L,K S L->K' S L)->qF P sg ops n0 os i S L K->qF P sg ops n0 os i S L K':=by
  intro ops n0 os
  induction os with
  |nil=>intro i S L K K' h hk;exact h _ _ hk
  |cons o os ih=>
   intro i S L K K' h hk;simp only[qF]at hk |-
   exact oJ (λhy=>vQ hy λr hr=>ih _ _ _ h hr) (λhn=>ih _ _ _ h hn) hk
 intro c
 induction c with
 |skip=>intro Q Q' S h hw;exact h _ _ hw
 |exit id=>intro Q Q' S h hw;exact h _ _ hw
 |ret=>intro Q Q' S h hw;exact h _ _ hw
 |seq x y ihx ihy=>
  intro Q Q' S h hw;refine ihx (λex S' hq=> ?_) hw;grind
 |cond c x y ihx ihy=>
  grind [Gl.wp]
 |block id c ih=>
  intro Q Q' S h hw;refine ih (λex S' hq=> ?_) hw;grind
 |loop c ih=>
  intro Q Q' S h hw;obtain⟨I,hn,hs⟩:=hw;refine⟨I,hn,λn S hI=>ih (λex S' hq=> ?_) (hs n S hI)⟩;grind
 |region id ops d=>
  intro Q Q' S h hw;cases d with
  |false=>exact⟨hw.1,opsM _ _ _ (λS hq=>h _ _ hq) hw.2⟩
  |true=>exact⟨hw.1,hw.2.1,opsDM _ _ _ _ (λS L hq=>⟨hq.1,h _ _ hq.2⟩) hw.2.2⟩
 |rangeFunc=>intro Q Q' S h hw;exact hw
 |scope=>intro Q Q' S h hw;exact hw
 |label=>intro Q Q' S h hw;exact hw
 |goto=>intro Q Q' S h hw;exact hw
 |refuse=>intro Q Q' S h hw;exact hw
theorem sK:∀(c:Code) {Q:Ex->St->Prop} {S:St},ig nt c=true->ka P sg c Q S->Gl.wp P sg nt c Q S:=by
 intro c
 induction c with
 |skip=>intro Q S _ hw;exact hw
 |exit id=>intro Q S _ hw;exact hw
 |ret=>intro Q S _ hw;exact hw
 |seq x y ihx ihy=>
  intro Q S h hw;simp only[ig,zB9]at h;refine wp_mono x (λex S' hq=> ?_) (ihx h.1 hw);grind
 |cond c x y ihx ihy=>
  grind [ig,Gl.wp,ka]
 |block id c ih=>intro Q S h hw;exact ih h hw
 |loop c ih=>
  intro Q S h hw;obtain⟨I,hn,hs⟩:=hw;exact⟨I,hn,λn S hI=>ih h (hs n S hI)⟩
 |region id ops d=>
  intro Q S h hw;cases d with
  |false=>exact⟨h,hw⟩
  |true=>
   simp only[ig,zB9]at h;exact⟨h.1,h.2,hw⟩
 |rangeFunc=>intro Q S _ hw;exact hw
 |scope=>intro Q S _ hw;exact hw
 |label=>intro Q S _ hw;exact hw
 |goto=>intro Q S _ hw;exact hw
 |refuse=>intro Q S _ hw;exact hw
def FE(as:List Arg)(ts:List Nat)(res:List PV)(ex:Ex)(S:St):Prop:=
 match ex with
 | .exit _=>False
 |_=>yO false S as [] (ts.map S.e) res
theorem Fun.of(hm:P.follows .mixedOrders=true){fn:Func}{code:Code}
  (hf:P.funcs[f]? =some fn) (hb:fn.body=some code) (hname:(fn.name== "runtime.NumGoroutine")=false) (hres:fn.results=⟨ts.map .tmp⟩) (hargs:decide (args.length<=fn.ntmps)=true)
  (hck:ig fn.ntmps code=true) (hnr:noRoL res=true) (hro:jA res=true)
  (hw:ka P sg code (FE (args.map .pv) ts res) (iw (args.map .pv))):Fun P f args res:=
 CallT.of_wp hm hf hb hname hres (by grind) hnr hro rfl (wp_mono _ (λex S h=>by cases ex with|exit id=>exact h|normal=>exact resW_tmp.symm▸h|ret=>exact resW_tmp.symm▸h) (sK _ hck hw))
def TW(P:Program)(as:List Arg)(rs:List ResultVar)(res:List PV)(ex:Ex)(S:St):Prop:=
 match ex with
 | .exit _=>False
 |_=>mX P S rs λvs=>yO false S as [] vs res
theorem Fun.ofR(hm:P.follows .mixedOrders=true){fn:Func}{code:Code}{rs:List ResultVar}
  (hf:P.funcs[f]? =some fn) (hb:fn.body=some code) (hname:(fn.name== "runtime.NumGoroutine")=false) (hres:fn.results=⟨rs⟩) (hargs:decide (args.length<=fn.ntmps)=true)
  (hck:ig fn.ntmps code=true) (hnr:noRoL res=true) (hro:jA res=true)
  (hw:ka P sg code (TW P (args.map .pv) rs res) (iw (args.map .pv))):Fun P f args res:=
 CallT.of_wp hm hf hb hname hres (by grind) hnr hro rfl (wp_mono _ (λex S h=>by cases ex with|exit id=>exact h|normal=>exact h|ret=>exact h) (sK _ hck hw))
class Dat where
 P:Program
 sg:FuncId->List Bool
 ops:Array Oper
 n0:Nat
 os:List Oper
 i:Nat
 S:St
def BG[D:Dat](K:St->Prop):Prop:=rR D.P D.sg D.ops D.n0 D.os D.i D.S K
def BF[D:Dat](L:List (List (Nat×Blk)×List Nat))(K:St->List (List (Nat×Blk)×List Nat)->Prop):Prop:=qF D.P D.sg D.ops D.n0 D.os D.i D.S L K
variable {Q:Ex->St->Prop}{S:St}
def Bp(P:Program)(sg:FuncId->List Bool)(b:Code)(Q:Ex->St->Prop)(ex:Ex)(S':St):Prop:=match ex with| .normal=>ka P sg b Q S'|ex=>Q ex S'
def wR(id:Nat)(Q:Ex->St->Prop)(ex:Ex)(S':St):Prop:=match ex with| .exit j=>if j=id then Q .normal S' else Q (.exit j) S'|ex=>Q ex S'
def DI(I:Nat->St->Prop)(n:Nat)(Q:Ex->St->Prop)(ex:Ex)(S':St):Prop:=match ex with| .normal=>∃m,m<n/\I m S'|ex=>Q ex S'
theorem aaN{a b:Code}(h:ka P sg a (Bp P sg b Q) S):ka P sg (.seq a b) Q S:=h
theorem VA(h:Q .normal S):ka P sg .skip Q S:=h
theorem VI(h:Q (.exit id) S):ka P sg (.exit id) Q S:=h
theorem aaO(h:Q .ret S):ka P sg .ret Q S:=h
theorem PH{c:Code}(h:ka P sg c (wR id Q) S):ka P sg (.block id c) Q S:=h
theorem QJ{b:Code}(h:ka P sg b Q S):Bp P sg b Q .normal S:=h
theorem QK{b:Code}(h:Q (.exit id) S):Bp P sg b Q (.exit id) S:=h
theorem QI{b:Code}(h:Q .ret S):Bp P sg b Q .ret S:=h
theorem QN(h:Q .normal S):wR id Q .normal S:=h
theorem QM(h:Q .ret S):wR id Q .ret S:=h
theorem QL(h:Q .normal S):wR id Q (.exit id) S:=by grind [wR]
theorem zJ(e:(j==id)=false)(h:Q (.exit j) S):wR id Q (.exit j) S:=by
 grind [wR]
theorem WA{I:Nat->St->Prop}(h:Q (.exit id) S):DI I n Q (.exit id) S:=h
theorem Wz{I:Nat->St->Prop}(h:Q .ret S):DI I n Q .ret S:=h
theorem vD{I:Nat->St->Prop}(m:Nat)(hm:m<n)(h:I m S):DI I n Q .normal S:=⟨m,hm,h⟩
theorem u9{c:Code}(I:Nat->St->Prop)(n:Nat)(h:I n S)(hs:∀n S,I n S->ka P sg c (DI I n Q) S):ka P sg (.loop c) Q S:=⟨I,⟨n,h⟩,hs⟩
theorem u7{ops:Array Oper}{os:List Oper}(e:ops.toList=os)(en:256*ops.size=n)(h:∀K:St->Prop,(∀S',Q .normal (S'.nx n)->K S')-> @BG _ ⟨P,sg,ops,S.n,os,0,S⟩ K):ka P sg (.region id ops false) Q S:=by
 subst e;subst en;exact h _ λS' hq=>hq
theorem y0{ops:Array Oper}{os:List Oper}(e:ops.toList=os)(en:256*ops.size=n)(h:∀K:St->List (List (Nat×Blk)×List Nat)->Prop,(∀S' L,lj ops L->Q .normal (S'.nx n)->K S' L)-> @BF _ ⟨P,sg,ops,S.n,os,0,S⟩ [] K):ka P sg (.region id ops true) Q S:=by
 subst e;subst en;exact h _ λS' L hc hq=>⟨hc,hq⟩
def cdW(v:AV)(A B:Prop):Prop:=
 match v with
 | .p (.bool t)=>(t=true->A)/\(t=false->B)
 |_=>False
theorem TC{t:Bool}{A B:Prop}:cdW (.p (.bool t)) A B=((t=true->A)/\(t=false->B)):=_root_.id rfl
theorem VB{c:Operand}{x y:Code}(h:∀A B:Prop,(ka P sg x Q S->A)->(ka P sg y Q S->B)->cdW (BH S c) A B):ka P sg (.cond c x y) Q S:=by
 simp_all [id,ka,cdW]
def qE:PV->Bool
 | .sl .own _| .sl .fr _| .agg _| .dl _| .bx _=>false
 |_=>true
theorem IS(hx:qE x=true)(h:S.e t=.p x):yO false S as [] [S.e t] [x]:=by
 have e:∀K,K []->fin false S.h as.length (S.e t) x K:=λK hK=>by
  rw[h];cases x with
  |sl o xs=>cases o with
   |ro=>exact⟨rfl,hK⟩
   |fr=>simp[qE]at hx
   |own=>simp[qE]at hx
  |agg xs=>simp[qE]at hx
  |dl xs=>simp[qE]at hx
  |bx xs=>simp[qE]at hx
  |_=>exact⟨rfl,hK⟩
 refine e _ ⟨by simp,λj _=> ?_⟩;grind
theorem Kq(hx:qE x=true)(h:S.e t=.p x):FE as [t] [x] .ret S:=IS hx h
theorem yZ:FE as [] [] .ret S:=by
 refine⟨by simp,λj _=> ?_⟩;grind
theorem yY:FE as [] [] .normal S:=yZ
theorem wM{ops:Array Oper}{L:List (List (Nat×Blk)×List Nat)}(h:(L.map (·.1)).all List.isEmpty=true):lj ops L:=by
 have key:∀i,(L.getD i ([],[])).1=[]:=λi=>by
  rw[zA0];cases hi:L[i]? with
  |none=>rfl
  |some p=>
   have:=zC8.1 h p.1 (zD0.2 ⟨p,zF9 hi,rfl⟩);simpa using this
 intro j _ i _;grind [clear]
def Nx[D:Dat](d:Option Nat)(K:St->Prop):R->Prop:=
 λr=>rR D.P D.sg D.ops D.n0 D.os (D.i+1) (D.S.app d r) K
def Dx[D:Dat](d:Option Nat)(L:List (List (Nat×Blk)×List Nat))(K:St->List (List (Nat×Blk)×List Nat)->Prop):R->Prop:=
 λr=>qF D.P D.sg D.ops D.n0 D.os (D.i+1) (D.S.app d r) (L++[(r.ws,r.rd)]) K
def KV(K:R->Prop)(v:PV):Prop:=K ⟨.p v,[],[]⟩
def KW(K:R->Prop)(v:AV):Prop:=K ⟨v,[],[]⟩
def KA(k:Nat)(K:R->Prop)(v:AV):Prop:=qm k v K
variable {ops:Array Oper}{n0 i k:Nat}{os:List Oper}{d:Option Nat}{K:St->Prop}{KD:St->List (List (Nat×Blk)×List Nat)->Prop}{L:List (List (Nat×Blk)×List Nat)}{op:Op}{ty:TypeId}{ps:String}{af:Array Edge}{C:R->Prop}
def gd(ops:Array Oper)(S:St)(j:Nat):AV:=match (ops[j]?).bind (·.dst)with|some d=>S.e d|none=>.p .any
theorem NA{S:St}{o:Oper}(hg:o.guard=some (j,want)):fC ops S o yes no=Js (gd ops S j) want yes no:=by
 grind [fC,gd,Js]
def gI[D:Dat](v:AV)(want:Bool)(d:Option Nat)(op:Op)(K:St->Prop):Prop:=
 Js v want (pg D.P D.sg (BH D.S) D.S.h (tc D.n0 D.i) op (Nx d K)) (rR D.P D.sg D.ops D.n0 D.os (D.i+1) (D.S.puto d (.tup [])) K)
def gJ[D:Dat](v:AV)(want:Bool)(d:Option Nat)(op:Op)(L:List (List (Nat×Blk)×List Nat))(K:St->List (List (Nat×Blk)×List Nat)->Prop):Prop:=
 Js v want (pg D.P D.sg (BH D.S) D.S.h (tc D.n0 D.i) op (Dx d L K)) (qF D.P D.sg D.ops D.n0 D.os (D.i+1) (D.S.puto d (.tup [])) (L++[([],[])]) K)
theorem abp: @BG _ ⟨P,sg,ops,n0,[],i,S⟩ K=K S:=_root_.id rfl
theorem Ww: @BG _ ⟨P,sg,ops,n0,⟨d,op,ty,ps,af,none⟩::os,i,S⟩ K=pg P sg (BH S) S.h (tc n0 i) op (@Nx _ ⟨P,sg,ops,n0,os,i,S⟩ d K):=_root_.id rfl
theorem QG: @BG _ ⟨P,sg,ops,n0,⟨d,op,ty,ps,af,some (j,want)⟩::os,i,S⟩ K= @gI _ ⟨P,sg,ops,n0,os,i,S⟩ (gd ops S j) want d op K:=
 NA (o:=⟨d,op,ty,ps,af,some (j,want)⟩) rfl
theorem afe{r:R}: @Nx _ ⟨P,sg,ops,n0,os,i,S⟩ d K r= @BG _ ⟨P,sg,ops,n0,os,i+1,S.app d r⟩ K:=_root_.id rfl
theorem adq: @BF _ ⟨P,sg,ops,n0,[],i,S⟩ L KD=KD S L:=_root_.id rfl
theorem Zl: @BF _ ⟨P,sg,ops,n0,⟨d,op,ty,ps,af,none⟩::os,i,S⟩ L KD=pg P sg (BH S) S.h (tc n0 i) op (@Dx _ ⟨P,sg,ops,n0,os,i,S⟩ d L KD):=_root_.id rfl
theorem Tm: @BF _ ⟨P,sg,ops,n0,⟨d,op,ty,ps,af,some (j,want)⟩::os,i,S⟩ L KD= @gJ _ ⟨P,sg,ops,n0,os,i,S⟩ (gd ops S j) want d op L KD:=
 NA (o:=⟨d,op,ty,ps,af,some (j,want)⟩) rfl
theorem agf: @Dx _ ⟨P,sg,ops,n0,os,i,S⟩ d L KD ⟨v,ws,rd⟩= @BF _ ⟨P,sg,ops,n0,os,i+1,S.app d ⟨v,ws,rd⟩⟩ (L++[(ws,rd)]) KD:=_root_.id rfl
theorem GY:Js (.p (.bool b)) want yes no=((b=want->yes)/\(b= !want->no)):=by
 cases b<;>cases want<;>simp[Js]
theorem acQ: @gI _ ⟨P,sg,ops,n0,os,i,S⟩ (.tup []) want d op K= @BG _ ⟨P,sg,ops,n0,os,i+1,S.puto d (.tup [])⟩ K:=by simp[gI,Js,BG]
theorem acP: @gJ _ ⟨P,sg,ops,n0,os,i,S⟩ (.tup []) want d op L KD= @BF _ ⟨P,sg,ops,n0,os,i+1,S.puto d (.tup [])⟩ (L++[([],[])]) KD:=by simp[gJ,Js,BF]
class Arm where
 A:Prop
 B:Prop
def GB(b want:Bool)[D:Arm]:Prop:=(b=want->D.A)/\(b= !want->D.B)
theorem acG{A B:Prop}: @GB true true ⟨A,B⟩=A:=by simp[GB]
theorem acJ{A B:Prop}: @GB false false ⟨A,B⟩=A:=by simp[GB]
theorem acH{A B:Prop}: @GB true false ⟨A,B⟩=B:=by simp[GB]
theorem acI{A B:Prop}: @GB false true ⟨A,B⟩=B:=by simp[GB]
theorem Ko{A B:Prop}(h1:b=true->A)(h2:b=false->B): @GB b true ⟨A,B⟩:=⟨h1,h2⟩
theorem Kp{A B:Prop}(h1:b=false->A)(h2:b=true->B): @GB b false ⟨A,B⟩:=⟨h1,h2⟩
theorem SA: @gI _ ⟨P,sg,ops,n0,os,i,S⟩ (.p (.bool b)) want d op K= @GB b want ⟨pg P sg (BH S) S.h (tc n0 i) op (@Nx _ ⟨P,sg,ops,n0,os,i,S⟩ d K), @BG _ ⟨P,sg,ops,n0,os,i+1,S.puto d (.tup [])⟩ K⟩:=GY
theorem Sz: @gJ _ ⟨P,sg,ops,n0,os,i,S⟩ (.p (.bool b)) want d op L KD= @GB b want ⟨pg P sg (BH S) S.h (tc n0 i) op (@Dx _ ⟨P,sg,ops,n0,os,i,S⟩ d L KD), @BF _ ⟨P,sg,ops,n0,os,i+1,S.puto d (.tup [])⟩ (L++[([],[])]) KD⟩:=GY
theorem afg{v:PV}:KV C v=C ⟨.p v,[],[]⟩:=_root_.id rfl
theorem aff:KW C v=C ⟨v,[],[]⟩:=_root_.id rfl
theorem afh:KA k C v=qm k v C:=_root_.id rfl
variable {rd:List Nat}
theorem fU{n:Int}:sf .i64 n=(-9223372036854775808<=n/\n<=9223372036854775807):=by
 simp only[sf];rfl
theorem abq:S.app (some n) ⟨v,[],rd⟩=S.put n v:=_root_.id rfl
theorem Wx{w:Nat×Blk}:S.app (some n) ⟨v,w::ws,rd⟩=(S.put n v).hws (w::ws):=_root_.id rfl
theorem QH{w:Nat×Blk}:S.app none ⟨v,w::ws,rd⟩=S.hws (w::ws):=_root_.id rfl
theorem Wv:S.puto (some n) v=S.put n v:=_root_.id rfl
theorem Tf:(iw as).e t=(bA 0 as).getD t (.p .any):=_root_.id rfl
theorem Su:(iw as).h=bH as:=_root_.id rfl
theorem Rx:(iw as).n=as.length:=_root_.id rfl
theorem adf:(S.put n v).e t=if t=n then v else S.e t:=_root_.id rfl
theorem adg:(S.hws l).e=S.e:=_root_.id rfl
theorem agc:(S.nx n).e=S.e:=_root_.id rfl
theorem acC:(S.put n v).h=S.h:=_root_.id rfl
theorem acD:(S.hws l).h=hwsH S.h l:=_root_.id rfl
theorem af1:(S.nx n).h=S.h:=_root_.id rfl
theorem abP:(S.put n v).n=S.n:=_root_.id rfl
theorem abW:(S.hws l).n=S.n:=_root_.id rfl
theorem afJ:(S.nx n).n=S.n+n:=_root_.id rfl
theorem abI:BH S (.tmp t)=S.e t:=_root_.id rfl
theorem Rk{v:Value}:BH S (.const v)=.p (gV v):=_root_.id rfl
theorem Xf:BH S (.func f)=.p (.fn f [] []):=_root_.id rfl
theorem adC{n:Int}:gV (.int kd n)=.int kd n:=_root_.id rfl
theorem Zv:gV (.bool b)=.bool b:=_root_.id rfl
theorem adA{s:ByteArray}:gV (.string s)=.str s.data.toList:=_root_.id rfl
theorem Zu:gV (.slice none 0 0)=.sl .own []:=_root_.id rfl
variable {ρ:Operand->AV}{h:Nat->Blk}{t t' t'':TypeId}{x y z:Operand}
theorem Nh{op:Op}:sG P false false false op=false:=by cases op<;>rfl
theorem aaB{op:Op}(hs:ga sg=false)(hn:gu sg=false)(h3:gs sg=false)(h4:gr sg=false)(h5:gB sg=false):pg P sg ρ h k op C=lH P sg ρ h k op C:=by grind [pg,Nh]
theorem aaA{op:Op}(hs:ga sg=false)(hn:sG P (gu sg) (gs sg) (gr sg) op=true):pg P sg ρ h k op C=BJ P ρ h k op C:=by simp[pg,hs,hn]
theorem aaz{op:Op}(h5:gB sg=false)(hs:ga sg=false)(hn:sG P (gu sg) (gs sg) (gr sg) op=false):pg P sg ρ h k op C=lH P sg ρ h k op C:=by simp[pg,hs,hn,h5]
theorem Vv:lH P sg ρ h k (.move x) C=qm k (ρ x) C:=_root_.id rfl
theorem Kj:lH P sg ρ h k (.assign x) C=qm k (ρ x) C:=_root_.id rfl
theorem Vu:lH P sg ρ h k (.pick x y z) C=my (ρ x) (ρ y) (ρ z) (KA k C):=_root_.id rfl
theorem aaJ{b:BinOp}:lH P sg ρ h k (.binOp b t x y t') C=jr P b t (ρ x) (ρ y) (KV C):=_root_.id rfl
theorem aeR{b:UnOp}:lH P sg ρ h k (.unOp b t x) C=T4 b (ρ x) (KV C):=_root_.id rfl
theorem Vw:lH P sg ρ h k (.makeSlice t x y) C=tO P t k (ρ x) (ρ y) C:=_root_.id rfl
theorem Vz:lH P sg ρ h k (.indexAddr t x y) C=bZ P t (ρ x) (ρ y) (KW C):=_root_.id rfl
theorem PC:lH P sg ρ h k (.index t x y) C=oD P t (ρ x) (ρ y) (KW C):=_root_.id rfl
theorem Vx:lH P sg ρ h k (.load t x) C=gq P t h (ρ x) C:=_root_.id rfl
theorem PA:lH P sg ρ h k (.store t x y) C=lR P t h (ρ x) (ρ y) C:=_root_.id rfl
theorem PF:lH P sg ρ h k (.alloc t) C=oU P t k C:=_root_.id rfl
theorem aaH:lH P sg ρ h k (.box t x) C=OF h k (ρ x) C:=_root_.id rfl
theorem AU{f:Nat}:lH P sg ρ h k (.fieldAddr t x f) C=fk P t f (ρ x) (KW C):=_root_.id rfl
def OE(P:Program)(sg:FuncId->List Bool)(h:Nat->Blk)(k:Nat)(v:AV)(vs:List AV)(C:R->Prop):Prop:=
 match v with
 | .p (.fn g first caps)=>qk P sg h k g (first.map .p++vs++caps.map .p) C
 | .fn g first caps=>qk P sg h k g (first++vs++caps) C
 |_=>False
def Pk(P:Program)(h:Nat->Blk)(k:Nat)(f:FuncId)(C:R->Prop):List Arg->List Nat->List (Option (Nat×Option Nat))->Prop:=
 λas rd ms=>MQ ms rd/\∃tk outs res,CallT P tk f as outs res/\∃t,(t=false->tk=true->MR h ms)/\C ⟨impAll k res,fo h outs 0 ms++impWs t k res,db ms++rd⟩
def PkX(P:Program)(h:Nat->Blk)(k:Nat)(f:FuncId)(C:R->Prop):List PV->List Nat->Prop:=
 λxs rd=>Pk P h k f C (xs.map .pv) rd (xs.map λ_=>none)
def zM(h:Nat->Blk):List AV->(List PV->List Nat->Prop)->Prop
 |[],F=>F [] []
 |v::vs,F=>Ej h v λx rd=>zM h vs λxs rd'=>F (x::xs) (rd++rd')
theorem rQ{h:Nat->Blk}:∀{vs:List AV} {F:List Arg->List Nat->List (Option (Nat×Option Nat))->Prop},pass h [] vs F=zM h vs λxs rd=>F (xs.map .pv) rd (xs.map λ_=>none)
 |[],_=>rfl
 |v::vs,F=>by
  simp only[pass,zM,List.tail_nil];congr 1;funext x rd;rw[rQ];rfl
def UA(F:List PV->List Nat->Prop)(x:PV)(rd:List Nat):List PV->List Nat->Prop:=
 λxs rd'=>F (x::xs) (rd++rd')
def UN(h:Nat->Blk)(vs:List AV)(F:List PV->List Nat->Prop)(x:PV)(rd:List Nat):Prop:=zM h vs (UA F x rd)
def Bu(b:Blk)(id off len:Nat)(F:PV->List Nat->Prop):Prop:=
 match b with
 | .live _ c=>off+len<=c.length/\F (.sl .ro ((c.drop off).take len)) [id]
 | .froz m c=>off+len<=c.length/\F (.sl (.lent m) ((c.drop off).take len)) [id]
 | .deep _ cs rs=>off+len<=cs.length/\F (.sl .ro (((cs.map (DC.rd rs)).drop off).take len)) [id]
 |_=>False
theorem Vy{f:Operand}{args:List Operand}{ts:Array TypeId}:lH P sg ρ h k (.call {callee:=.value f,args:=⟨args⟩,argTypes:=ts}) C=OE P sg h k (ρ f) (args.map ρ) C:=by
 simp only[lH];rfl
def FZ(P:Program)(sg:FuncId->List Bool)(h:Nat->Blk)(k:Nat)(g:FuncId)(vs:List AV)(C:R->Prop)(l:List Nat):Prop:=Dr P sg (hwsH h (mG h l)) k g vs λr=>C ⟨r.v,mG h l++r.ws,l++r.rd⟩
def FZC(C:R->Prop)(ws:List (Nat×Blk))(rd:List Nat)(r:R):Prop:=C ⟨r.v,ws++r.ws,rd++r.rd⟩
theorem Yw:FZC C ws rd ⟨v,ws',rd'⟩=C ⟨v,ws++ws',rd++rd'⟩:=_root_.id rfl
theorem Yx:FZ P sg h k g vs C []=pass h (sg g) vs (Pk P h k g C):=_root_.id rfl
theorem SC{i:Nat}{l:List Nat}:FZ P sg h k g vs C (i::l)=pass (hwsH h (IF (h i) i (mG h l))) (sg g) vs (Pk P (hwsH h (IF (h i) i (mG h l))) k g (FZC C (IF (h i) i (mG h l)) (i::l))):=_root_.id rfl
theorem YA:mG h []=[]:=_root_.id rfl
theorem SX{i:Nat}:IF (.live m c) i ws=(i,.froz m c)::ws:=_root_.id rfl
theorem YV:nT [] vs=[]:=by cases vs<;>rfl
theorem Ta{fs:List Bool}:nT fs []=[]:=by cases fs with|nil=>rfl|cons b fs=>cases b<;>rfl
theorem af9{fs:List Bool}{i l:Nat}:nT (true::fs) (.ref i o l::vs)=i::nT fs vs:=_root_.id rfl
theorem aga{fs:List Bool}:nT (false::fs) (v::vs)=nT fs vs:=by cases v<;>rfl
def IPS(b:List Bool)(P:Program)(h:Nat->Blk)(g:FuncId)(vs:List AV)(C:R->Prop)(F:Prop):Prop:=if b.isEmpty=true then F else oC P h g vs C
theorem Sb{F:Prop}:IPS [] P h g vs C F=F:=zB0 rfl
theorem Ni{x:Bool}{b:List Bool}{F:Prop}:IPS (x::b) P h g vs C F=oC P h g vs C:=zA8 (by simp)
def inB(P:Program)(b:Blk)(g:FuncId)(id off len:Nat)(C:R->Prop):Prop:=
 match b with
 | .live m c=>off+len<=c.length/\∃f,OZ P g f/\∃l:List Int,(c.drop off).take len=l.map (PV.int .i64)/\C ⟨.p .any,[(id,.live m (c.take off++(f l).map (PV.int .i64)++c.drop (off+len)))],[id]⟩
 |_=>False
theorem Yh:oC P h g [.ref id off len] C=inB P (h id) g id off len C:=by
 grind [oC,inB]
def IPk(P:Program)(g:FuncId)(F:(List Int->List Int)->Prop):Prop:=∃f,OZ P g f/\F f
def IPL(m:Bool)(id off len:Nat)(L:List Int)(C:R->Prop)(f:List Int->List Int):Prop:=C ⟨.p .any,[(id,.live m (List.map (PV.int .i64) (L.take off++f ((L.drop off).take len)++L.drop (off+len))))],[id]⟩
theorem Yg{L:List Int}{f:List Int->List Int}:IPL m id off len L C f=C ⟨.p .any,[(id,.live m (List.map (PV.int .i64) (L.take off++f ((L.drop off).take len)++L.drop (off+len))))],[id]⟩:=_root_.id rfl
theorem Cc:∀{a b:List Int},a.map (PV.int .i64)=b.map (PV.int .i64)->a=b
 |[],[],_=>rfl
 |[],_::_,h=>by cases h
 |_::_,[],h=>by cases h
 |x::a,y::b,h=>by
  simp only[zC3,List.cons.injEq]at h;obtain⟨h1,h2⟩:=h;cases h1;rw[Cc h2]
theorem Sl{L:List Int}:inB P (.live m (List.map (PV.int .i64) L)) g id off len C=(off+len<=L.length/\IPk P g (IPL m id off len L C)):=by
 apply propext;simp only[inB,IPk,IPL,zB2,zE2,List.map_take,List.map_drop];constructor
 .rintro⟨h1,f,h2,l,h3,h4⟩
  rw[<-List.map_drop,<-List.map_take]at h3;grind [Cc]
 .rintro⟨h1,f,h2,h4⟩
  exact⟨h1,f,h2,_,(by simp_all),h4⟩
theorem oZ{f:List Int->List Int}{F:(List Int->List Int)->Prop}(h:OZ P g f)(k:F f):IPk P g F:=⟨f,h,k⟩
theorem abw:pass h [] vs (Pk P h k f C)=zM h vs (PkX P h k f C):=rQ
theorem abt{F:List PV->List Nat->Prop}:zM h [] F=F [] []:=_root_.id rfl
theorem q_p{x:PV}{F:List PV->List Nat->Prop}:zM h (.p x::vs) F=zM h vs (UA F x.cell []):=_root_.id rfl
theorem abs{F:List PV->List Nat->Prop}:zM h (.ref id off len::vs) F=Bu (h id) id off len (UN h vs F):=by
 simp only[zM,Ej,mY,Bu];cases h id<;>rfl
theorem abr{F:List PV->List Nat->Prop}{x:PV}:UA F x rd xs rd'=F (x::xs) (rd++rd'):=_root_.id rfl
theorem afi{F:List PV->List Nat->Prop}{x:PV}:UN h vs F x rd=zM h vs (UA F x rd):=_root_.id rfl
theorem WB{F:PV->List Nat->Prop}:Bu (.live m c) id off len F=(off+len<=c.length/\F (.sl (.lent true) ((c.drop off).take len)) [id]):=_root_.id rfl
theorem WC{F:PV->List Nat->Prop}:Bu (.froz m c) id off len F=(off+len<=c.length/\F (.sl (.lent m) ((c.drop off).take len)) [id]):=_root_.id rfl
theorem VJ(hf:Fun P f xs res)(hc:C ⟨impAll k res,impWs false k res,rd⟩):PkX P h k f C xs rd:=by
 have hm:∀(l:List PV),db (l.map λ_=>(none:Option (Nat×Option Nat)))=[]:=λl=>by
  grind [db,List.filterMap_eq_nil_iff]
 have ho:∀(l:List PV) (j:Nat),fo h [] j (l.map λ_=>(none:Option (Nat×Option Nat)))=[]:=λl=>by
  induction l with
  |nil=>intro j;rfl
  |cons x l ih=>intro j;exact ih (j+1)
 refine⟨⟨by grind,by rw[hm];simp⟩,false,[],res,hf,false,λ_ e=>(by cases e), ?_⟩;rw[hm,ho];exact hc
theorem Oy{n:Int}:(PV.int kd n).cell=.int kd n:=_root_.id rfl
theorem Jf:(PV.bool b).cell=.bool b:=_root_.id rfl
theorem Ow:(PV.str s).cell=.str s:=_root_.id rfl
theorem Je{s:List PV}:(PV.sl (.lent m) s).cell=.sl (.lent m) s:=by cases m<;>rfl
theorem Ox{s:List PV}:(PV.sl .own s).cell=.sl (.lent false) []:=_root_.id rfl
theorem Oz{s:List PV}:(PV.agg s).cell=.agg s:=_root_.id rfl
theorem Tz{b:List PV}:(PV.fn f a b).cell=.fn f a b:=_root_.id rfl
theorem aeh{n:Int}:qm k (.p (.int kd n)) C=C ⟨.p (.int kd n),[],[]⟩:=_root_.id rfl
theorem ZM:qm k (.p (.bool b)) C=C ⟨.p (.bool b),[],[]⟩:=_root_.id rfl
theorem aec:qm k (.p (.str s)) C=C ⟨.p (.str s),[],[]⟩:=_root_.id rfl
theorem ZL{s:List PV}:qm k (.p (.sl (.lent m) s)) C=C ⟨.p (.sl (.lent m) s),[],[]⟩:=by cases m<;>rfl
theorem aeg{s:List PV}:qm k (.p (.sl .own s)) C=C ⟨.ref k 0 s.length,[(k,.live false s)],[]⟩:=_root_.id rfl
theorem agB{b:List PV}:qm k (.p (.fn f a b)) C=C ⟨.p (.fn f a b),[],[]⟩:=_root_.id rfl
theorem aed{a b c:Nat}:qm k (.ref a b c) C=C ⟨.ref a b c,[],[]⟩:=_root_.id rfl
theorem aee{a b:Nat}:qm k (.ptr a b) C=C ⟨.ptr a b,[],[]⟩:=_root_.id rfl
theorem ZN{s:List AV}:qm k (.agg s) C=C ⟨.agg s,[],[]⟩:=_root_.id rfl
theorem aeb{s:List AV}:qm k (.tup s) C=C ⟨.tup s,[],[]⟩:=_root_.id rfl
theorem aei{i l:Nat}:qm k (.inn i r o l) C=C ⟨.inn i r o l,[],[]⟩:=_root_.id rfl
theorem aef{i:Nat}:qm k (.prs i n) C=C ⟨.prs i n,[],[]⟩:=_root_.id rfl
variable {A:AV->Prop}{V:PV->Prop}{kd kd':IntKind}{m n:Int}{b b':Bool}{s s':List UInt8}{v v':AV}
theorem WX{c:Bool}:my (.p (.bool b)) (.p (.bool b')) (.p (.bool c)) A=A (.p (.bool (bif b then b' else c))):=_root_.id rfl
theorem WV:my (.p (.bool true)) v v' A=A v:=by
 unfold my;grind
theorem QW:my (.p (.bool false)) v v' A=A v':=by
 unfold my;grind
theorem adX:jr P .add t (.p (.int kd m)) (.p (.int kd' n)) V=(kd=kd'/\sf kd (m+n)/\V (.int kd (m+n))):=_root_.id rfl
theorem adK:jr P .sub t (.p (.int kd m)) (.p (.int kd' n)) V=(kd=kd'/\sf kd (m-n)/\V (.int kd (m-n))):=_root_.id rfl
theorem adP:jr P .mul t (.p (.int kd m)) (.p (.int kd' n)) V=(kd=kd'/\sf kd (m*n)/\V (.int kd (m*n))):=_root_.id rfl
theorem adN:jr P .quo t (.p (.int kd m)) (.p (.int kd' n)) V=(kd=kd'/\n≠0/\sf kd (m.tdiv n)/\V (.int kd (m.tdiv n))):=_root_.id rfl
theorem adM:jr P .rem t (.p (.int kd m)) (.p (.int kd' n)) V=(kd=kd'/\n≠0/\V (.int kd (m.tmod n))):=_root_.id rfl
theorem adL:jr P .shl t (.p (.int kd m)) (.p (.int kd' n)) V=(0<=n/\n<kd.bits/\sf kd (m*2^n.toNat)/\V (.int kd (m*2^n.toNat))):=_root_.id rfl
theorem adW:jr P .and t (.p (.int kd m)) (.p (.int kd' n)) V=(kd=kd'/\0<=m/\0<=n/\sf kd m/\sf kd n/\V (.int kd ((m.toNat&&& n.toNat:Nat):Int))):=_root_.id rfl
theorem adV:jr P .eql t (.p (.int kd m)) (.p (.int kd' n)) V=(kd=kd'/\V (.bool (decide (m=n)))):=_root_.id rfl
theorem adO:jr P .neq t (.p (.int kd m)) (.p (.int kd' n)) V=(kd=kd'/\V (.bool (!decide (m=n)))):=_root_.id rfl
theorem adQ:jr P .lss t (.p (.int kd m)) (.p (.int kd' n)) V=(kd=kd'/\V (.bool (decide (m<n)))):=_root_.id rfl
theorem adR:jr P .leq t (.p (.int kd m)) (.p (.int kd' n)) V=(kd=kd'/\V (.bool (decide (m<=n)))):=_root_.id rfl
theorem adT:jr P .gtr t (.p (.int kd m)) (.p (.int kd' n)) V=(kd=kd'/\V (.bool (decide (n<m)))):=_root_.id rfl
theorem adU:jr P .geq t (.p (.int kd m)) (.p (.int kd' n)) V=(kd=kd'/\V (.bool (decide (n<=m)))):=_root_.id rfl
theorem abh:jr P .add t (.p (.str s)) (.p (.str s')) V=(s.length+s'.length<=2^60/\V (.str (s++s'))):=_root_.id rfl
theorem abg:jr P .eql t (.p (.str s)) (.p (.str s')) V=V (.bool (decide (s=s'))):=_root_.id rfl
theorem abf:jr P .neq t (.p (.str s)) (.p (.str s')) V=V (.bool (!decide (s=s'))):=_root_.id rfl
theorem acl:jr P .eql t (.p (.bool b)) (.p (.bool b')) V=(wQ P t=true/\V (.bool (b==b'))):=_root_.id rfl
theorem ack:jr P .neq t (.p (.bool b)) (.p (.bool b')) V=(wQ P t=true/\V (.bool (!(b==b')))):=_root_.id rfl
theorem aaR:T4 .not (.p (.bool b)) V=V (.bool (!b)):=_root_.id rfl
theorem aaS:T4 .neg (.p (.int kd m)) V=(sf kd (0-m)/\V (.int kd (0-m))):=_root_.id rfl
end
end Go.Gl
namespace Go.Gl
open Go Go.RowKit
theorem Fun.calls1[Amb]{P:Program}(hf:Fun P f args [.bool b])(w:World)(ha:∀B o,Amb.tb B=some o->w.heap[B]? =some o){vs:List Value}(hr:RepL w (λ_=>False) (λB=>w.heap.size<=B) args vs):
  Calls P f ⟨vs⟩ w λe w'=>e=.returned (.bool b)/\Below w.heap.size w w':=by
 obtain⟨_,_,_,_,h⟩:=hf;have dead:∀j,bH (args.map .pv) j=.dead:=λj=>by
  grind [bH]
 have hno:∀(ι:Nat->Loc) B,¬Held (bH (args.map .pv)) ι B:=by
  rintro ι B ⟨id,ho⟩;rw[dead]at ho;exact ho
 have hrep:∀(l:List PV) (vs:List Value) (k:Nat),RepL w (λ_=>False) (λB=>w.heap.size<=B) l vs->RepAL w (Held (bH (args.map .pv)) λ_=>⟨0,0,0,0,bC⟩) (λB=>w.heap.size<=B) (λ_=>⟨0,0,0,0,bC⟩) (bA k (l.map .pv)) vs:=by
  intro l
  induction l with
  |nil=>grind [bA,RepAL,RepL]
  |cons x l ih=>
   intro vs k h;simp only[RepL]at h;obtain⟨v,vs',rfl,h1,h2⟩:=h;simp only[zC3,bA,Arg.av,RepAL,RepA];exact⟨v,vs',rfl,RepP.tr (F:=λ_=>False) (λ_ _ _ _ hv=>⟨hv,hno _ _⟩) (λ_ _ _ h=>h) _ _ h1,ih _ _ h2⟩
 refine(h w (λB=>w.heap.size<=B) (λ_=>⟨0,0,0,0,bC⟩) vs ⟨ha,λB o _ hB=>hno _ B hB⟩ (λ_ h=>h) ⟨?_, ?_⟩ (hrep _ _ _ hr)).mono ?_
 .intro id;rw[dead];trivial
 .intro id _ B ho;rw[dead]at ho;exact ho.elim
 .rintro e w' ⟨v,ι',rfl,_,hk,_,hv⟩
  have hv:v=.bool b:=by grind [impAll,imp,imp1,RepA,RepP]
  subst hv;exact⟨rfl,hk.os,hk.tape,hk.output,hk.size,λk hk'=>hk.block k hk' (hno _ _)⟩
theorem lD:RepL w F G [] []:=by simp only[RepL]
theorem jB{v:Value}{vs:List Value}(h:RepP w F G x v)(hs:RepL w F G xs vs):RepL w F G (x::xs) (v::vs):=by
 grind [RepL]
theorem agV(s:ByteArray):RepP w F G (.str s.data.toList) (.string s):=by simp only[RepP]
end Go.Gl
namespace Go.Gl
open Go
variable [Amb]
section
variable {P:Program}{sg:FuncId->List Bool}{h:Nat->Blk}{k:Nat}{ρ:Operand->AV}{C:R->Prop}{t t':TypeId}{x y:Operand}
def aba(h:Nat->Blk)(i:Nat)(b:Blk)(j:Nat):Blk:=if j=i then b else h j
theorem Yn:hwsH h []=h:=_root_.id rfl
theorem Sq{i:Nat}{b:Blk}:hwsH h ((i,b)::l)=hwsH (aba h i b) l:=_root_.id rfl
theorem Qw{i:Nat}{b:Blk}:aba h i b j=if j=i then b else h j:=_root_.id rfl
theorem Xg{S0 i:Nat}:tc S0 i=S0+256*i:=_root_.id rfl
def UW{α:Type}(o:Option α)(K:α->Prop):Prop:=match o with|some x=>K x|none=>False
theorem acE{α:Type}{xs:List α}{i:Int}{K:α->Prop}:gt xs i K=(0<=i/\UW xs[i.toNat]? K):=_root_.id rfl
theorem CI{α:Type}{a:α}{K:α->Prop}:UW (some a) K=K a:=_root_.id rfl
def KX(id:Nat)(C:R->Prop)(v:PV):Prop:=C ⟨.p v,[],[id]⟩
def KB(A:AV->Prop)(b:UInt8):Prop:=A (.p (.int .u8 b.toNat))
def KP(A:AV->Prop)(v:PV):Prop:=A (.p (.pc [v]))
def RU(s:Option (Nat×Bool))(h:Nat->Blk)(a:AV)(C:R->Prop):Prop:=
 match s with
 |some (n,false)=>n=1/\(match a with
  | .p (.pc (x::_))=>C ⟨.p x,[],[]⟩
  | .ptr id off=>match h id with
   | .live _ c=>gt c off λx=>C ⟨.p x,[],[id]⟩
   | .froz _ c=>gt c off λx=>C ⟨.p x,[],[id]⟩
   | .deep _ cs rs=>gt cs off λx=>C ⟨x.av id rs,[],[id]⟩
   |_=>False
  | .iptr id r off=>match h id with
   | .deep _ _ rs=>(match rs[r]? with
    |some (some c)=>gt c off λx=>C ⟨.p x,[],[id]⟩
    |_=>False)
   |_=>False
  |_=>False)
 |some (n,true)=>(match a with
  | .p (.pc xs)=>n<=xs.length/\C ⟨.p (.agg (xs.take n)),[],[]⟩
  | .ptr id off=>match h id with
   | .live _ c=>off+n<=c.length/\C ⟨.p (.agg ((c.drop off).take n)),[],[id]⟩
   | .froz _ c=>off+n<=c.length/\C ⟨.p (.agg ((c.drop off).take n)),[],[id]⟩
   | .deep _ cs rs=>off+n<=cs.length/\C ⟨.agg (((cs.drop off).take n).map (DC.av id rs)),[],[id]⟩
   |_=>False
  |_=>False)
 |none=>False
def KD(id:Nat)(rs:List (Option (List PV)))(C:R->Prop)(x:DC):Prop:=C ⟨x.av id rs,[],[id]⟩
def ZZ(b:Blk)(id r off:Nat)(C:R->Prop):Prop:=
 match b with
 | .deep _ _ rs=>(match rs[r]? with
  |some (some c)=>gt c off (KX id C)
  |_=>False)
 |_=>False
def Jq(b:Blk)(id:Nat)(off:Nat)(C:R->Prop):Prop:=
 match b with
 | .live _ c=>gt c off (KX id C)
 | .froz _ c=>gt c off (KX id C)
 | .deep _ cs rs=>gt cs off (KD id rs C)
 |_=>False
theorem XO{a:AV}:gq P t h a C=RU (pU P t) h a C:=_root_.id rfl
theorem RK{v:PV}{vs:List PV}:RU (some (1,false)) h (.p (.pc (v::vs))) C=C ⟨.p v,[],[]⟩:=by simp[RU]
theorem MC:RU (some (1,false)) h (.ptr id off) C=Jq (h id) id off C:=by simp only[RU,Jq,true_and];rfl
theorem Ih:RU (some (1,false)) h (.iptr id r off) C=ZZ (h id) id r off C:=by simp only[RU,ZZ,true_and];rfl
theorem XP:Jq (.live m c) id off C=gt c off (KX id C):=_root_.id rfl
theorem afR{v:PV}:KX id C v=C ⟨.p v,[],[id]⟩:=_root_.id rfl
variable {A:AV->Prop}
theorem Ij{i:Int}{o:Fl}:bZ P t (.p (.sl o xs)) (.p (.int kd i)) A=((jK P t).isSome=true/\gt xs i (KP A)):=_root_.id rfl
theorem ED{i:Int}:bZ P t (.ref id off len) (.p (.int kd i)) A=((jK P t).isSome=true/\0<=i/\i<len/\A (.ptr id (off+i.toNat))):=_root_.id rfl
theorem EF{i:Int}:bZ P t (.inn id r off len) (.p (.int kd i)) A=((jK P t).isSome=true/\0<=i/\i<len/\A (.iptr id r (off+i.toNat))):=_root_.id rfl
theorem afS{v:PV}:KP A v=A (.p (.pc [v])):=_root_.id rfl
theorem RL{i:Int}:oD P t (.p (.str s)) (.p (.int kd i)) A=(jX P t=true/\gt s i (KB A)):=_root_.id rfl
theorem afT{b:UInt8}:KB A b=A (.p (.int .u8 b.toNat)):=_root_.id rfl
theorem aaE{ty:TypeId}:lH P sg ρ h k (.call {callee:=.builtin .len,args:=⟨[x]⟩,argTypes:=⟨[ty]⟩}) C=v8 P ty (ρ x) (KW C):=_root_.id rfl
theorem RJ:v8 P t (.p (.str s)) A=(jX P t=true/\A (.p (.int .i64 s.length))):=_root_.id rfl
theorem MB{o:Fl}:v8 P t (.p (.sl o xs)) A=((jK P t).isSome=true/\A (.p (.int .i64 xs.length))):=_root_.id rfl
theorem Ie:v8 P t (.ref id off len) A=((jK P t).isSome=true/\A (.p (.int .i64 len))):=_root_.id rfl
theorem Ig:v8 P t (.inn id r off len) A=((jK P t).isSome=true/\A (.p (.int .i64 len))):=_root_.id rfl
def BS(n k:Nat)(C:R->Prop)(xs:List PV)(ws:List (Nat×Blk))(rd:List Nat):Prop:=C ⟨.ref k 0 n,ws++[(k,.live false xs)],rd⟩
def PU(F:List PV->List (Nat×Blk)->List Nat->Prop)(v:PV)(xs:List PV)(ws:List (Nat×Blk))(rd:List Nat):Prop:=F (v::xs) ws rd
theorem aeU{parts:Array (Nat×Operand)}(hs:(jK P t).isSome=true):lH P sg ρ h k (.buildSlice t n parts) C=((jK P t).isSome=true/\gU n parts=true/\n<=1000000/\nQ h (parts.toList.map λp=>ρ p.2) (BS n k C)):=by
 show bP P t n parts k ρ h C=_;unfold bP;rw[zA8 (HX hs)];rfl
def BP(n k:Nat)(C:R->Prop)(xs:List PV):Prop:=C ⟨.prs k n,[(k,.live false xs)],[]⟩
def PR(x y:PV)(F:List PV->Prop)(xs:List PV):Prop:=F (x::y::xs)
theorem aaF{parts:Array (Nat×Operand)}(hs:nJ P t=true):lH P sg ρ h k (.buildSlice t n parts) C=(gU n parts=true/\1<=n/\n<=1000000/\HS (parts.toList.map λp=>ρ p.2) (BP n k C)):=by
 show bP P t n parts k ρ h C=_;unfold bP;rw[zB0 hs];rfl
theorem afV:BP n k C xs=C ⟨.prs k n,[(k,.live false xs)],[]⟩:=_root_.id rfl
theorem afQ{x y:PV}{F:List PV->Prop}:PR x y F xs=F (x::y::xs):=_root_.id rfl
theorem WJ{F:List PV->Prop}:HS [] F=F []:=_root_.id rfl
theorem QU{x y:PV}{F:List PV->Prop}:HS (.agg [.p x,.p y]::vs) F=(x.cellOk=true/\y.cellOk=true/\HS vs (PR x y F)):=_root_.id rfl
theorem adu{b:List PV}:PV.cellOk (.fn f a b)=true:=_root_.id rfl
theorem abE{b:List PV}:AV.one1 (.p (.fn f a b))=True:=_root_.id rfl
theorem EE{A:AV->Prop}{i:Int}:bZ P t (.prs id len) (.p (.int kd i)) A=(nJ P t=true/\0<=i/\i<len/\A (.ptr id (i.toNat*2))):=_root_.id rfl
theorem If{A:AV->Prop}:v8 P t (.prs id len) A=(nJ P t=true/\A (.p (.int .i64 len))):=_root_.id rfl
theorem WW{parts:Array (Nat×Operand)}(h:gU n parts=true):gU n parts=true:=h
theorem MA{F:List PV->List (Nat×Blk)->List Nat->Prop}:nQ h [] F=F [] [] []:=_root_.id rfl
theorem XN{F:List PV->List (Nat×Blk)->List Nat->Prop}{v:PV}:nQ h (.p v::vs) F=(v.cell.cellOk=true/\nQ h vs (PU F v.cell)):=_root_.id rfl
theorem afP{F:List PV->List (Nat×Blk)->List Nat->Prop}{v:PV}:PU F v xs ws rd=F (v::xs) ws rd:=_root_.id rfl
theorem afU:BS n k C xs ws rd=C ⟨.ref k 0 n,ws++[(k,.live false xs)],rd⟩:=_root_.id rfl
theorem Xd{n:Int}:(PV.int kd n).cellOk=true:=_root_.id rfl
theorem Rf:(PV.bool b).cellOk=true:=_root_.id rfl
theorem Xc:(PV.str s).cellOk=true:=_root_.id rfl
theorem Re{s:List PV}:(PV.sl (.lent m) s).cellOk=true:=by cases m<;>rfl
def AP(h:Nat->Blk)(k:Nat)(s:AV)(C:R->Prop)(ys:List PV)(rd:List Nat):Prop:=
 match s with
 | .ref id off len=>match h id with
  | .live m c=>len+ys.length<=1099511627776/\off+len<=c.length/\
    (if off+len=c.length then C ⟨.ref k 0 (len+ys.length),[(id,.dead),(k,.live m (c.drop off++ys))],id::rd⟩
    else if off+len+ys.length<=c.length then C ⟨.ref k off (len+ys.length),[(id,.dead),(k,.live m (c.take (off+len)++ys++c.drop (off+len+ys.length)))],id::rd⟩
    else C ⟨.ref k 0 (len+ys.length),[(id,.dead),(k,.live m ((c.drop off).take len++ys))],id::rd⟩)
  |_=>False
 | .p (.sl .own [])=>ys.length<=1099511627776/\C ⟨.ref k 0 ys.length,[(k,.live false ys)],rd⟩
 | .inn id r 0 len=>(match h id with
  | .deep m cs rs=>(match rs[r]? with
   |some (some c)=>len=c.length/\id∉rd/\len+ys.length<=1099511627776/\
     C ⟨.ref k 0 (len+ys.length),[(id,.deep m cs (rs.set r none)),(k,.live m (c++ys))],id::rd⟩
   |_=>False)
  |_=>False)
 |_=>False
def apI(b:Blk)(id r len k:Nat)(C:R->Prop)(ys:List PV)(rd:List Nat):Prop:=
 match b with
 | .deep m cs rs=>(match rs[r]? with
  |some (some c)=>len=c.length/\id∉rd/\len+ys.length<=1099511627776/\
    C ⟨.ref k 0 (len+ys.length),[(id,.deep m cs (rs.set r none)),(k,.live m (c++ys))],id::rd⟩
  |_=>False)
 |_=>False
def apB(b:Blk)(id off len k:Nat)(C:R->Prop)(ys:List PV)(rd:List Nat):Prop:=
 match b with
 | .live m c=>len+ys.length<=1099511627776/\off+len<=c.length/\
    (if off+len=c.length then C ⟨.ref k 0 (len+ys.length),[(id,.dead),(k,.live m (c.drop off++ys))],id::rd⟩
    else if off+len+ys.length<=c.length then C ⟨.ref k off (len+ys.length),[(id,.dead),(k,.live m (c.take (off+len)++ys++c.drop (off+len+ys.length)))],id::rd⟩
    else C ⟨.ref k 0 (len+ys.length),[(id,.dead),(k,.live m ((c.drop off).take len++ys))],id::rd⟩)
 |_=>False
def ctB(b:Blk)(id off len:Nat)(F:List PV->List Nat->Prop):Prop:=
 match b with
 | .live _ c=>off+len<=c.length/\F ((c.drop off).take len) [id]
 | .froz _ c=>off+len<=c.length/\F ((c.drop off).take len) [id]
 |_=>False
def apX(h:Nat->Blk)(k:Nat)(s x:AV)(C:R->Prop):Prop:=if kS h x=true then iZ h k s x C else oP h x (AP h k s C)
def axB(b:Blk)(h:Nat->Blk)(k:Nat)(s:AV)(j off n:Nat)(C:R->Prop):Prop:=
 match b with
 | .deep .. =>iZ h k s (.ref j off n) C
 |b=>ctB b j off n (AP h k s C)
theorem agt{s:AV}{v:PV}:apX h k s (.p v) C=oP h (.p v) (AP h k s C):=by simp[apX,kS]
theorem ZB{s:AV}:apX h k s (.ref j off n) C=axB (h j) h k s j off n C:=by
 grind [apX,kS,axB,oP,ctB]
theorem TH{s:AV}:axB (.live m c) h k s j off n C=ctB (.live m c) j off n (AP h k s C):=_root_.id rfl
theorem MH:AP h k (.inn id r 0 len) C ys rd=apI (h id) id r len k C ys rd:=by
 simp only[AP,apI]
theorem aad:lH P sg ρ h k (.call {callee:=.builtin .append,args:=⟨[x,y]⟩,argTypes:=⟨[t,t']⟩}) C=
  ((jK P t).isSome=true/\((jK P t').isSome=true\/jX P t'=true)/\apX h k (ρ x) (ρ y) C):=rfl
theorem RM{o:Fl}{F:List PV->List Nat->Prop}:oP h (.p (.sl o xs)) F=F xs []:=_root_.id rfl
theorem XR{F:List PV->List Nat->Prop}:oP h (.p (.str s)) F=F (s.map λb=>.int .u8 b.toNat) []:=_root_.id rfl
theorem Ii{F:List PV->List Nat->Prop}:ctB (.live m c) id off len F=(off+len<=c.length/\F ((c.drop off).take len) [id]):=_root_.id rfl
theorem MG:AP h k (.p (.sl .own [])) C ys rd=(ys.length<=1099511627776/\C ⟨.ref k 0 ys.length,[(k,.live false ys)],rd⟩):=_root_.id rfl
theorem ME:AP h k (.ref id off len) C ys rd=apB (h id) id off len k C ys rd:=by
 simp only[AP,apB]
theorem aab:apB (.live m c) id off len k C ys rd=(len+ys.length<=1099511627776/\off+len<=c.length/\
    (if off+len=c.length then C ⟨.ref k 0 (len+ys.length),[(id,.dead),(k,.live m (c.drop off++ys))],id::rd⟩
    else if off+len+ys.length<=c.length then C ⟨.ref k off (len+ys.length),[(id,.dead),(k,.live m (c.take (off+len)++ys++c.drop (off+len+ys.length)))],id::rd⟩
    else C ⟨.ref k 0 (len+ys.length),[(id,.dead),(k,.live m ((c.drop off).take len++ys))],id::rd⟩)):=rfl
theorem KE{α:Type}{l:List α}:l.take l.length=l:=zE6
end
section
variable {S:St}{as:List Arg}{h:Nat->Blk}{k:Nat}{F:List (Nat×Nat×Pl)->Prop}{v:AV}{vs:List AV}{xs:List PV}
def FK(h:Nat->Blk)(k:Nat)(vs:List AV)(xs:List PV)(F:List (Nat×Nat×Pl)->Prop)(L:List (Nat×Nat×Pl)):Prop:=fu false h k vs xs λL'=>F (L++L')
def F0(L:List (Nat×Nat×Pl)):Prop:=L.Pairwise Dj
theorem aaP{ex:Ex}(hx:ex=.ret\/ex=.normal)(hf:fu false S.h as.length (ts.map S.e) xs F0):FE as ts xs ex S:=by
 have key:yO false S as [] (ts.map S.e) xs:=by
  unfold yO;refine Eq.mpr (zB5 (fu false S.h as.length (ts.map S.e) xs) (?_:_=F0)) hf;grind [F0]
 rcases hx with rfl|rfl<;>exact key
theorem ac6:fu false h k [] [] F=F []:=_root_.id rfl
theorem YT:fu false h k (v::vs) (x::xs) F=fin false h k v x (FK h (k+16) vs xs F):=_root_.id rfl
def FL(L:List (Nat×Nat×Pl))(F:List (Nat×Nat×Pl)->Prop)(L':List (Nat×Nat×Pl)):Prop:=F (L++L')
theorem Va{L:List (Nat×Nat×Pl)}:FK h k vs xs F L=fu false h k vs xs (FL L F):=_root_.id rfl
theorem af8{L L':List (Nat×Nat×Pl)}:FL L F L'=F (L++L'):=_root_.id rfl
theorem ac7{n:Int}:fin false h k v (.int kd n) F=(v=.p (.int kd n)/\F []):=_root_.id rfl
theorem YU:fin false h k v (.bool b) F=(v=.p (.bool b)/\F []):=_root_.id rfl
theorem ac4:fin false h k v (.str s) F=(v=.p (.str s)/\F []):=_root_.id rfl
def fiB(b:Blk)(k id off len:Nat)(ys:List PV)(F:List (Nat×Nat×Pl)->Prop):Prop:=
 match b with
 | .live m c=>off+len<=c.length/\(m=true->false=true)/\(c.drop off).take len=ys/\F [(k,id,.o off)]
 |_=>False
theorem ac5:fin false h k (.ref id off len) (.sl .own ys) F=fiB (h id) k id off len ys F:=by
 grind [fin,mJ,fiB]
theorem YS:fiB (.live false c) k id off len ys F=(off+len<=c.length/\(c.drop off).take len=ys/\F [(k,id,.o off)]):=by
 simp[fiB]
theorem f_0:F0 []:=List.Pairwise.nil
theorem f_1{p:Nat×Nat×Pl}:F0 [p]:=by simp[F0]
end
section
variable {S:St}{h:Nat->Blk}{C:R->Prop}{k:Nat}{P:Program}{t t':TypeId}
theorem ab9{α β:Type}{f:α->β}{l l':List α}:List.map f l++List.map f l'=List.map f (l++l'):=zE2.symm
theorem XE{l:List Int}{x:Int}{r:List PV}:List.map (PV.int kd) l++(PV.int kd x::r)=List.map (PV.int kd) (l++[x])++r:=by simp
theorem XD{l:List (List UInt8)}{x:List UInt8}{r:List PV}:List.map PV.str l++(PV.str x::r)=List.map PV.str (l++[x])++r:=by simp
theorem VM{α β:Type}{f:α->β}{l:List α}:(l.map f).take n=(l.take n).map f:=List.map_take.symm
theorem Zf{α β:Type}{f:α->β}{l:List α}:(l.map f).drop n=(l.drop n).map f:=List.map_drop.symm
def Pb(b:UInt8):PV:=.int .u8 b.toNat
def cK(m:Bool)(l:List Int):PV:=.sl (.lent m) (l.map (.int .i64))
theorem Mk{l:List Int}:noRo (cK false l)=true:=dv (λ_=>rfl) l
theorem Wu{i l:Nat}(h:l=l'):AV.ref i o l=AV.ref i o l':=by rw[h]
theorem RQ{α:Type}{f:α->PV}{l l':List α}(h:l=l'):Blk.live m (l.map f)=Blk.live m (l'.map f):=by rw[h]
theorem Uz{α:Type}{f:α->PV}{l l':List α}(h:l=l'):l.map f=l'.map f:=by rw[h]
end
attribute [go_sem ↓] aaB abp Ww QG afe adq Zl Tm agf Vv Kj Vu aaJ
attribute [go_sem ↓] aeR Vy Vx Vz PC adf abI Rk Tf aaE aeU aad
attribute [go_sem] Sb Ni Yh Sl Yg Yx SC Yw YA SX YV Ta af9 aga abw abt q_p abs abr afi WB WC Oy Jf Ow
attribute [go_sem] Je Ox SA
attribute [go_sem] Sz acG acJ acH acI gd afg aff afh aeh ZM aec ZL aeg
attribute [go_sem] aed aee ZN aeb agB WX WV QW adX
attribute [go_sem] adK adP adN adM adL adW adV adO adQ adR adT
attribute [go_sem] adU abh abg abf acl ack aaR aaS adg agc acC af1
attribute [go_sem] acD abP afJ abW Xf adC Zv adA Zu abq Wx
attribute [go_sem] Wv TC true_and and_true zH8 zF3 zG5 Option.bind_some zC3 zE8
attribute [go_sem] zE1 zC0 zF8 imp imp1 impAll impWs impW impW1 Su Rx bA
attribute [go_sem] List.toList_toArray Arg.av List.getD_cons_zero List.getD_cons_succ Bool.not_true Bool.not_false ne_eq not_false_eq_true not_true_eq_false false_implies true_implies implies_true
attribute [go_sem] eq_self Bool.true_eq_false Bool.false_eq_true cond_true cond_false zG1 Bool.and_false zF4 zH9 Int.cast_ofNat_Int zC9 Int.toNat_natCast_add_one
attribute [go_sem] zE9 List.take_succ_cons List.take_zero List.take_nil zA5 decide_true decide_false List.size_toArray zC1 List.length_nil Yn Sq
attribute [go_sem] Qw Xg acE CI XO RK MC XP afR Ij
attribute [go_sem] aef aaF afV afQ WJ QU adu abE EE If ED afS RL afT RJ MB Ie MA XN afP afU Xd
attribute [go_sem] Ih EF Ig agt ZB TH MH aei
attribute [go_sem] Rf Xc Re RM XR Ii MG ME aab
attribute [go_sem] KE ac6 YT Va af8 ac7 YU ac4 ac5 YS
attribute [go_sem] f_0 f_1 Option.isSome_some Int.ofNat_lt true_or or_true zI3 zB2 zI0 Nat.add_zero zB1
attribute [go_sem] AV.p.injEq PV.int.injEq PV.bool.injEq PV.str.injEq
attribute [go_sem] XE XD acQ acP
section
variable {P:Program}{sg:FuncId->List Bool}{h:Nat->Blk}{k:Nat}{ρ:Operand->AV}{C:R->Prop}{t t':TypeId}{x y:Operand}{A:AV->Prop}
theorem NW{l:List Int}:cK m l=.sl (.lent m) (l.map (.int .i64)):=_root_.id rfl
theorem XF{l:List (List Int)}{x:List Int}{r:List PV}:List.map (cK m) l++(PV.sl (.lent m) (List.map (PV.int .i64) x)::r)=List.map (cK m) (l++[x])++r:=by simp[cK]
theorem Ey:List.replicate n (PV.int kd z)=List.map (PV.int kd) (List.replicate n z):=by simp
theorem BZ{z:Bool}:List.replicate n (PV.bool z)=List.map PV.bool (List.replicate n z):=by simp
theorem Ew{l:List Int}{i:Nat}:(List.map (PV.int kd) l).set i (PV.int kd z)=List.map (PV.int kd) (l.set i z):=List.map_set.symm
theorem BY{l:List Bool}{i:Nat}{z:Bool}:(List.map PV.bool l).set i (PV.bool z)=List.map PV.bool (l.set i z):=List.map_set.symm
theorem Ev{l:List (List UInt8)}{i:Nat}{z:List UInt8}:(List.map PV.str l).set i (PV.str z)=List.map PV.str (l.set i z):=List.map_set.symm
theorem Id{l:List (List Int)}{i:Nat}{z:List Int}:(List.map (cK m) l).set i (PV.sl (.lent m) (List.map (PV.int .i64) z))=List.map (cK m) (l.set i z):=by
 rw[<-NW,List.map_set]
theorem VL{l:List UInt8}{n:Int}(h0:0<=n)(h1:n<256):List.map Pb l++[PV.int .u8 n]=List.map Pb (l++[UInt8.ofNat n.toNat]):=by
 grind [Pb,UInt8.toNat_ofNat']
def FB(v:Option AV)(d:Int)(K:Int->Prop):Prop:=
 match v with
 |none=>K d
 |some (.p (.int _ i))=>K i
 |_=>False
theorem AE{x:Option Operand}{d:Nat}{K:Int->Prop}:ll ρ x d K=FB (x.map ρ) d K:=by
 cases x with
 |none=>rfl
 |some o=>
  simp only[ll,FB,zE4];grind
def BL(lo:Option AV)(F:Int->Int->Prop)(h:Int):Prop:=FB lo 0 (F h)
def SLs(s:List UInt8)(C:R->Prop)(h l:Int):Prop:=0<=l/\l<=h/\h<=s.length/\C ⟨.p (.str ((s.take h.toNat).drop l.toNat)),[],[]⟩
def SLl(o:Fl)(xs:List PV)(C:R->Prop)(h l:Int):Prop:=0<=l/\l<=h/\h<=xs.length/\C ⟨.p (.sl o ((xs.take h.toNat).drop l.toNat)),[],[]⟩
def SLr(id off len:Nat)(C:R->Prop)(h l:Int):Prop:=0<=l/\l<=h/\h<=len/\C ⟨.ref id (off+l.toNat) (h.toNat-l.toNat),[],[]⟩
def BL3(hi lo:Option AV)(F:Int->Int->Int->Prop)(m:Int):Prop:=FB hi 0 (BL lo (F m))
theorem PB{lo hi mx:Option Operand}:lH P sg ρ h k (.slice t x lo hi mx) C=eC P t (ρ x) lo hi mx k ρ C:=_root_.id rfl
theorem abd{lo hi:Option Operand}:eC P t (.p (.str s)) lo hi none k ρ C=(jX P t=true/\FB (hi.map ρ) s.length (BL (lo.map ρ) (SLs s C))):=by
 simp only[eC,AE,true_and];rfl
theorem afb{o:Fl}{lo hi:Option Operand}:eC P t (.p (.sl o xs)) lo hi none k ρ C=((jK P t).isSome=true/\FB (hi.map ρ) xs.length (BL (lo.map ρ) (SLl o xs C))):=by
 simp only[eC,AE];rfl
theorem abe{lo hi:Option Operand}:eC P t (.ref id off len) lo hi none k ρ C=((jK P t).isSome=true/\FB (hi.map ρ) len (BL (lo.map ρ) (SLr id off len C))):=by
 simp only[eC,AE];rfl
theorem TG{K:Int->Prop}:FB none d K=K d:=_root_.id rfl
theorem TF{i:Int}{K:Int->Prop}:FB (some (.p (.int kd i))) d K=K i:=_root_.id rfl
theorem adG{lo:Option AV}{F:Int->Int->Prop}{i:Int}:BL lo F i=FB lo 0 (F i):=_root_.id rfl
theorem Zy{hi lo:Option AV}{F:Int->Int->Int->Prop}{i:Int}:BL3 hi lo F i=FB hi 0 (BL lo (F i)):=_root_.id rfl
theorem Wd{i j:Int}:SLs s C i j=(0<=j/\j<=i/\i<=s.length/\C ⟨.p (.str ((s.take i.toNat).drop j.toNat)),[],[]⟩):=_root_.id rfl
theorem Wf{o:Fl}{i j:Int}:SLl o xs C i j=(0<=j/\j<=i/\i<=xs.length/\C ⟨.p (.sl o ((xs.take i.toNat).drop j.toNat)),[],[]⟩):=_root_.id rfl
theorem We{i j:Int}:SLr id off len C i j=(0<=j/\j<=i/\i<=len/\C ⟨.ref id (off+j.toNat) (i.toNat-j.toNat),[],[]⟩):=_root_.id rfl
def DR(s:Option (Nat×Bool))(h:Nat->Blk)(a v:AV)(C:R->Prop):Prop:=
 match s with
 |some (n,_)=>(match a with
  | .ptr id off=>match h id with
   | .live m c=>fm h v λxs ws rd=>xs.length=n/\off+n<=c.length/\id∉rd/\
     C ⟨.p .any,ws++[(id,.live m (c.take off++xs++c.drop (off+n)))],id::rd⟩
   | .deep m cs rs=>kO h m id (i7 v) rs λxs rs ws rd=>xs.length=n/\off+n<=cs.length/\
     C ⟨.p .any,ws++[(id,.deep m (cs.take off++xs++cs.drop (off+n)) rs)],id::rd⟩
   |_=>False
  | .iptr id r off=>n=1/\HP h id r off v C
  |_=>False)
 |none=>False
def DS(b:Blk)(id off:Nat)(v:PV)(C:R->Prop):Prop:=
 match b with
 | .live m c=>v.cell.cellOk=true/\off<c.length/\C ⟨.p .any,[(id,.live m (c.set off v.cell))],[id]⟩
 | .deep m cs rs=>(v.cellOk=true\/v=.sl .own [])/\off<cs.length/\C ⟨.p .any,[(id,.deep m (cs.set off (.v v)) rs)],[id]⟩
 |_=>False
def ub(b b':Blk)(id off id' off' len:Nat)(C:R->Prop):Prop:=
 match b,b' with
 | .live m c,.live m' c'=>off'+len<=c'.length/\off<c.length/\id≠id'/\
   C ⟨.p .any,[(id',.froz m' c'),(id,.live m (c.set off (.sl (.lent m') ((c'.drop off').take len))))],[id,id']⟩
 | .live m c,.froz m' c'=>off'+len<=c'.length/\off<c.length/\id≠id'/\
   C ⟨.p .any,[(id,.live m (c.set off (.sl (.lent m') ((c'.drop off').take len))))],[id,id']⟩
 | .deep m cs rs,.live m' c'=>(m'=true->m=true)/\off'=0/\len=c'.length/\off<cs.length/\id'≠id/\
   C ⟨.p .any,[(id',.dead),(id,.deep m (cs.set off (.row rs.length)) (rs++[some c']))],[id,id']⟩
 | .deep m cs rs,.froz m' c'=>off'+len<=c'.length/\off<cs.length/\id'≠id/\
   C ⟨.p .any,[(id,.deep m (cs.set off (.v (.sl (.lent m') ((c'.drop off').take len)))) rs)],[id,id']⟩
 |_,_=>False
theorem Ki{a:AV}:lR P t h a v C=DR (pU P t) h a v C:=_root_.id rfl
theorem rG{α:Type}{c:List α}{v:α}(ho:off<c.length):c.take off++[v]++c.drop (off+1)=c.set off v:=by
 grind [List.set_eq_take_append_cons_drop]
theorem PW{v:PV}(hv:∀xs,v≠ .agg xs):DR (some (1,false)) h (.ptr id off) (.p v) C=DS (h id) id off v C:=by
 simp only[DR,DS];cases hb:h id with
 |live m c=>
  cases v with
  |agg xs=>grind
  |_=>
   grind [fm,Ek,rG]
 |froz m c=>rfl
 |deep m cs rs=>
   have ea:i7 (.p v)=[.p v]:=by
    cases v with
    |agg xs=>grind
    |_=>rfl
   grind [kO,xh,rG]
 |_=>rfl
theorem VX{n:Int}:DR (some (1,false)) h (.ptr id off) (.p (.int kd n)) C=DS (h id) id off (.int kd n) C:=PW (by simp)
theorem PT:DR (some (1,false)) h (.ptr id off) (.p (.bool b)) C=DS (h id) id off (.bool b) C:=PW (by simp)
theorem VV:DR (some (1,false)) h (.ptr id off) (.p (.str s)) C=DS (h id) id off (.str s) C:=PW (by simp)
theorem PP{s:List PV}:DR (some (1,false)) h (.ptr id off) (.p (.sl (.lent m) s)) C=DS (h id) id off (.sl (.lent m) s) C:=PW (by simp)
theorem VW:DR (some (1,false)) h (.ptr id off) (.ref id' off' len) C=ub (h id) (h id') id off id' off' len C:=by
 simp only[DR,ub];cases hb:h id with
 |live m c=>
  grind [fm,Ek,rG]
 |froz m c=>cases h id'<;>rfl
 |deep m cs rs=>
   simp only[i7,kO,xh];grind [rG]
 |_=>cases h id'<;>rfl
theorem KT{v:PV}:DS (.live m c) id off v C=(v.cell.cellOk=true/\off<c.length/\C ⟨.p .any,[(id,.live m (c.set off v.cell))],[id]⟩):=_root_.id rfl
theorem KO:ub (.deep m cs rs) (.live false c') id off id' off' len C=(off'=0/\len=c'.length/\off<cs.length/\id'≠id/\
   C ⟨.p .any,[(id',.dead),(id,.deep m (cs.set off (.row rs.length)) (rs++[some c']))],[id,id']⟩):=by simp[ub]
theorem aae:ub (.live m c) (.live m' c') id off id' off' len C=(off'+len<=c'.length/\off<c.length/\id≠id'/\
   C ⟨.p .any,[(id',.froz m' c'),(id,.live m (c.set off (.sl (.lent m') ((c'.drop off').take len))))],[id,id']⟩):=rfl
theorem aaf:ub (.live m c) (.froz m' c') id off id' off' len C=(off'+len<=c'.length/\off<c.length/\id≠id'/\
   C ⟨.p .any,[(id,.live m (c.set off (.sl (.lent m') ((c'.drop off').take len))))],[id,id']⟩):=rfl
def puB(b:Blk)(id off len:Nat)(K:PV->List (Nat×Blk)->List Nat->Prop):Prop:=
 match b with
 | .live m c=>off+len<=c.length/\K (.sl (.lent m) ((c.drop off).take len)) [(id,.froz m c)] [id]
 | .froz m c=>off+len<=c.length/\K (.sl (.lent m) ((c.drop off).take len)) [] [id]
 |_=>False
def PUR(h:Nat->Blk)(vs:List AV)(F:List PV->List (Nat×Blk)->List Nat->Prop)(x:PV)(ws:List (Nat×Blk))(rd:List Nat):Prop:=
 nQ h vs λxs ws' rd'=>F (x::xs) (ws++ws') (rd++rd')
def PUF(F:List PV->List (Nat×Blk)->List Nat->Prop)(x:PV)(ws:List (Nat×Blk))(rd:List Nat)(xs:List PV)(ws':List (Nat×Blk))(rd':List Nat):Prop:=F (x::xs) (ws++ws') (rd++rd')
theorem WE{F:List PV->List (Nat×Blk)->List Nat->Prop}:nQ h (.ref id off len::vs) F=puB (h id) id off len (PUR h vs F):=by
 grind [nQ,Ek,puB,PUR]
theorem QQ{K:PV->List (Nat×Blk)->List Nat->Prop}:puB (.live m c) id off len K=(off+len<=c.length/\K (.sl (.lent m) ((c.drop off).take len)) [(id,.froz m c)] [id]):=_root_.id rfl
theorem afl{F:List PV->List (Nat×Blk)->List Nat->Prop}{v:PV}:PUR h vs F v ws rd=nQ h vs (PUF F v ws rd):=_root_.id rfl
theorem afm{F:List PV->List (Nat×Blk)->List Nat->Prop}{v:PV}:PUF F v ws rd xs ws' rd'=F (v::xs) (ws++ws') (rd++rd'):=_root_.id rfl
def mkG(s:Option (Nat×PV))(a:Int)(k:Nat)(C:R->Prop):Prop:=
 match s with
 |some (_,z)=>z.cellOk=true/\C ⟨.ref k 0 a.toNat,[(k,.live false (List.replicate a.toNat z))],[]⟩
 |none=>False
theorem aca{a b:Int}:tO P t k (.p (.int kd a)) (.p (.int kd' b)) C=(0<=a/\a<=b/\b<=1099511627776/\mkG (jK P t) a k C):=_root_.id rfl
theorem RD{a:Int}{z:PV}:mkG (some (n,z)) a k C=(z.cellOk=true/\C ⟨.ref k 0 a.toNat,[(k,.live false (List.replicate a.toNat z))],[]⟩):=_root_.id rfl
def alG(s:Option (List PV))(k:Nat)(C:R->Prop):Prop:=
 match s with
 |some xs=>xs≠[]/\xs.length<=1000000/\xs.all PV.cellOk=true/\C ⟨.ptr k 0,[(k,.live false xs)],[]⟩
 |none=>False
theorem ad2:oU P t k C=alG (ip P t) k C:=_root_.id rfl
theorem TQ:alG (some xs) k C=(xs≠[]/\xs.length<=1000000/\xs.all PV.cellOk=true/\C ⟨.ptr k 0,[(k,.live false xs)],[]⟩):=_root_.id rfl
def abJ(o:Option AV)(A:AV->Prop):Prop:=match o with|some x=>A x|none=>False
theorem Mh:abJ (some v) A=A v:=_root_.id rfl
def exG(v:AV)(i:Nat)(A:AV->Prop):Prop:=match v with| .tup xs=>AV.nth xs i A|_=>False
theorem HC{i:Nat}:lH P sg ρ h k (.extract x i) C=exG (ρ x) i (KA k C):=_root_.id rfl
theorem Zb{xs:List AV}{i:Nat}:exG (.tup xs) i A=abJ xs[i]? A:=_root_.id rfl
def faG(s:Option (Nat×Nat×Bool))(a:AV)(A:AV->Prop):Prop:=
 match s with
 |some (off,n,_)=>n≠0/\(match a with
  | .p (.pc xs)=>A (.p (.pc (xs.drop off)))
  | .ptr id o=>A (.ptr id (o+off))
  |_=>False)
 |none=>False
theorem ac3{f:Nat}:fk P t f v A=faG (nc P t f) v A:=_root_.id rfl
theorem YQ:faG (some (off,n,b)) (.ptr id o) A=(n≠0/\A (.ptr id (o+off))):=_root_.id rfl
def bdG(pl:Option (List Nat))(zs:Option (List PV))(parts:List (Nat×AV))(K:AV->Prop):Prop:=
 match pl,zs with
 |some places,some zs=>jJ places (zs.map .p) parts λcs=>K (.agg cs)
 |_,_=>False
def KG(K:AV->Prop)(cs:List AV):Prop:=K (.agg cs)
def fiG(pl:List Nat)(cells:List AV)(o:Option Nat)(v:AV)(rest:List (Nat×AV))(K:List AV->Prop):Prop:=
 match o with
 |some o=>o<cells.length/\v.one1/\jJ pl (cells.set o v) rest K
 |none=>False
theorem PE{parts:Array (Nat×Operand)}:lH P sg ρ h k (.build t parts) C=oS P t (parts.toList.map λp=>(p.1,ρ p.2)) (KW C):=_root_.id rfl
theorem adJ{parts:List (Nat×AV)}:oS P t parts A=bdG (fJ P t) (ip P t) parts A:=_root_.id rfl
theorem adI{parts:List (Nat×AV)}:bdG (some pl) (some zs) parts A=jJ pl (zs.map .p) parts (KG A):=_root_.id rfl
theorem YH{K:List AV->Prop}:jJ pl cells [] K=K cells:=_root_.id rfl
theorem SP{i:Nat}{rest:List (Nat×AV)}{K:List AV->Prop}:jJ pl cells ((i,v)::rest) K=fiG pl cells pl[i]? v rest K:=_root_.id rfl
theorem SO{rest:List (Nat×AV)}{K:List AV->Prop}:fiG pl cells (some o) v rest K=(o<cells.length/\v.one1/\jJ pl (cells.set o v) rest K):=_root_.id rfl
theorem aco{cs:List AV}:KG A cs=A (.agg cs):=_root_.id rfl
theorem Rd:AV.one1 (.p (.bool b))=True:=_root_.id rfl
theorem Xa:AV.one1 (.p (.str s))=True:=_root_.id rfl
theorem Xb{i l:Nat}:AV.one1 (.ref i o l)=True:=_root_.id rfl
def ciG(o:Option IntKind)(s:Bool)(n:Int)(C:R->Prop):Prop:=
 match o with
 |some kd=>s=true/\sf kd n/\C ⟨.p (.int kd n),[],[]⟩
 |none=>False
theorem PD:lH P sg ρ h k (.convert t t' x) C=mN P t t' k h (ρ x) C:=_root_.id rfl
theorem Zp{n:Int}:mN P t t' k h (.p (.int kd n)) C=ciG (Cn P t') (P.underlying t).isSome n C:=_root_.id rfl
theorem Tx{n:Int}:ciG (some kd) true n C=(sf kd n/\C ⟨.p (.int kd n),[],[]⟩):=by simp[ciG]
def CV(C:R->Prop)(xs:List PV)(rd:List Nat):Prop:=∃s:List UInt8,xs=s.map (λb=>PV.int .u8 b.toNat)/\C ⟨.p (.str s),[],rd⟩
theorem Zo:mN P t t' k h (.ref id off len) C=(jX P t'=true/\(jK P t).isSome=true/\ZQ P t=true/\ctB (h id) id off len (CV C)):=by
 simp only[mN,oP,ctB];cases h id<;>rfl
theorem aeo(h:s.map Pb=s'.map Pb):s=s':=by
 induction s generalizing s' with
 |nil=>simp_all
 |cons a s ih=>cases s' with
  |nil=>simp at h
  |cons b s'=>
   grind [Pb,UInt8.toNat_inj]
theorem Oj:CV C (s.map Pb) rd=C ⟨.p (.str s),[],rd⟩:=by
 apply propext;constructor
 .rintro⟨s',e,hc⟩;rw[aeo (s:=s) (s':=s') e];exact hc
 .intro hc;exact⟨s,rfl,hc⟩
theorem ads{b:UInt8}:CV C [.int .u8 (b.toNat:Int)] rd=C ⟨.p (.str [b]),[],rd⟩:=Oj (s:=[b])
theorem Kr{n:Int}(h0:0<=n)(h1:n<256)(hc:C ⟨.p (.str [UInt8.ofNat n.toNat]),[],rd⟩):CV C [.int .u8 n] rd:=
 ⟨_,by grind [UInt8.toNat_ofNat'],hc⟩
theorem vW{n:Int}:sf .u8 n=(0<=n/\n<=255):=by simp only[sf];rfl
theorem aaD{ts:Array TypeId}:lH P sg ρ h k (.call {callee:=.builtin .max,args:=⟨[x,y]⟩,argTypes:=ts}) C=Jp true (ρ x) (ρ y) (KW C):=_root_.id rfl
theorem aaC{ts:Array TypeId}:lH P sg ρ h k (.call {callee:=.builtin .min,args:=⟨[x,y]⟩,argTypes:=ts}) C=Jp false (ρ x) (ρ y) (KW C):=_root_.id rfl
theorem XI{a b:Int}:Jp true (.p (.int kd a)) (.p (.int kd' b)) A=(kd=kd'/\A (.p (.int kd (max a b)))):=by
 grind [Jp]
theorem XH{a b:Int}:Jp false (.p (.int kd a)) (.p (.int kd' b)) A=(kd=kd'/\A (.p (.int kd (min a b)))):=by
 grind [Jp]
theorem aeT{first caps:Array Operand}:lH P sg ρ h k (.makeFunc (.func f) first caps) C=C ⟨.fn f (first.toList.map ρ) (caps.toList.map ρ),[],[]⟩:=_root_.id rfl
theorem acO{first:List PV}:OE P sg h k (.p (.fn g first caps)) vs C=IPS (sg (g+12884901888)) P h g (first.map .p++vs++caps.map .p) C (FZ P sg h k g (first.map .p++vs++caps.map .p) C (nT (sg (g+8589934592)) (first.map .p++vs++caps.map .p))):=by
 simp only[OE,qk];rfl
def PF2(f:FuncId)(ys:List PV)(rd:List Nat)(K:PV->List Nat->Prop)(zs:List PV)(rd':List Nat):Prop:=K (.fn f ys zs) (rd++rd')
def PF1(h:Nat->Blk)(f:FuncId)(caps:List AV)(K:PV->List Nat->Prop)(ys:List PV)(rd:List Nat):Prop:=gH h caps (PF2 f ys rd K)
def PA1(K:PV->List Nat->Prop)(ys:List PV)(rd:List Nat):Prop:=K (.agg ys) rd
def UP(h:Nat->Blk)(vs:List AV)(K:List PV->List Nat->Prop)(x:PV)(rd:List Nat):Prop:=gH h vs (UA K x rd)
theorem afj{first caps:List AV}{F:List PV->List Nat->Prop}:zM h (.fn f first caps::vs) F=gH h first (PF1 h f caps (UN h vs F)):=_root_.id rfl
theorem abx{xs:List AV}{F:List PV->List Nat->Prop}:zM h (.agg xs::vs) F=gH h xs (PA1 (UN h vs F)):=_root_.id rfl
theorem WP{caps:List AV}{K:PV->List Nat->Prop}:PF1 h f caps K ys rd=gH h caps (PF2 f ys rd K):=_root_.id rfl
theorem WO{K:PV->List Nat->Prop}:PF2 f ys rd K zs rd'=K (.fn f ys zs) (rd++rd'):=_root_.id rfl
theorem WU{K:PV->List Nat->Prop}:PA1 K ys rd=K (.agg ys) rd:=_root_.id rfl
theorem WH{K:List PV->List Nat->Prop}:gH h [] K=K [] []:=_root_.id rfl
theorem aaQ{v:PV}{K:List PV->List Nat->Prop}:UP h vs K v rd=gH h vs (UA K v rd):=_root_.id rfl
def ptG(b:Blk)(id off:Nat)(F:PV->List Nat->Prop):Prop:=
 match b with
 | .live _ c=>F (.pc (c.drop off)) [id]
 | .froz _ c=>F (.pc (c.drop off)) [id]
 | .deep _ cs rs=>F (.pc ((cs.map (DC.rd rs)).drop off)) [id]
 |_=>False
theorem WG{K:List PV->List Nat->Prop}:gH h (.ptr id off::vs) K=ptG (h id) id off (UP h vs K):=by
 simp only[gH,mY,ptG];cases h id<;>rfl
theorem QR{F:PV->List Nat->Prop}:ptG (.live m c) id off F=F (.pc (c.drop off)) [id]:=_root_.id rfl
def ncG(v:AV)(C:R->Prop):Prop:=match v with| .ptr id off=>C ⟨.ptr id off,[],[]⟩| .p (.pc xs)=>C ⟨.p (.pc xs),[],[]⟩| .p (.fn f a b)=>C ⟨.p (.fn f a b),[],[]⟩| .fn f a b=>C ⟨.fn f a b,[],[]⟩|_=>False
theorem aeS:lH P sg ρ h k (.nilCheck x) C=ncG (ρ x) C:=_root_.id rfl
theorem Xq:ncG (.ptr id off) C=C ⟨.ptr id off,[],[]⟩:=_root_.id rfl
def muB(b:Blk)(id len:Nat)(F:List PV->Prop)(FS:Nat->List PV->Prop):Prop:=
 match b with
 | .live _ c=>len=c.length/\F c
 | .deep _ cs rs=>(∃rows,cs=canon rows.length/\rs=rows.map some/\len=rows.length/\F [.dl rows])\/
   ∃rows:List (List PV),0<rows.length/\cs=canonS rows.length/\rs=List.replicate rows.length none++rows.map some/\len=rows.length/\FS (rows.length+rows.length) [.dl rows]
 |_=>False
def MU(h:Nat->Blk)(sg:List Bool)(vs:List AV)(id:Nat)(K:List Arg->List Nat->List (Option (Nat×Option Nat))->Prop)(c:List PV):Prop:=
 pass h sg vs λas rd ms=>K (.mu false c::as) rd (some (id,none)::ms)
def MUI(h:Nat->Blk)(sg:List Bool)(vs:List AV)(id:Nat)(K:List Arg->List Nat->List (Option (Nat×Option Nat))->Prop)(r:Nat)(c:List PV):Prop:=
 pass h sg vs λas rd ms=>K (.mu false c::as) rd (some (id,some r)::ms)
def MF(id:Nat)(c:List PV)(K:List Arg->List Nat->List (Option (Nat×Option Nat))->Prop)(as:List Arg)(rd:List Nat)(ms:List (Option (Nat×Option Nat))):Prop:=K (.mu false c::as) rd (some (id,none)::ms)
def PQ(F:List Arg->List Nat->List (Option (Nat×Option Nat))->Prop)(xs:List PV)(rd:List Nat):Prop:=F (xs.map .pv) rd (xs.map λ_=>none)
theorem XA{sg:List Bool}{K:List Arg->List Nat->List (Option (Nat×Option Nat))->Prop}:pass h (true::sg) (.ref id 0 len::vs) K=muB (h id) id len (MU h sg vs id K) (MUI h sg vs id K):=by
 grind [pass,muB,MU,MUI]
theorem RC{F:List PV->Prop}{FS:Nat->List PV->Prop}:muB (.live m c) id len F FS=(len=c.length/\F c):=_root_.id rfl
theorem ab5{sg:List Bool}{K:List Arg->List Nat->List (Option (Nat×Option Nat))->Prop}:MU h sg vs id K c=pass h sg vs (MF id c K):=_root_.id rfl
theorem XB{K:List Arg->List Nat->List (Option (Nat×Option Nat))->Prop}:pass h [] vs (MF id c K)=zM h vs (PQ (MF id c K)):=rQ
theorem ab4{F:List Arg->List Nat->List (Option (Nat×Option Nat))->Prop}:PQ F xs rd=F (xs.map .pv) rd (xs.map λ_=>none):=_root_.id rfl
theorem ab6{K:List Arg->List Nat->List (Option (Nat×Option Nat))->Prop}{ms:List (Option (Nat×Option Nat))}:MF id c K as rd ms=K (.mu false c::as) rd (some (id,none)::ms):=_root_.id rfl
end
section
variable {P:Program}{sg:FuncId->List Bool}{nt:Nat}{h:Nat->Blk}{k:Nat}{C:R->Prop}{S:St}{Q:Ex->St->Prop}
class NDl(c:List PV):Prop where
 h:∀rows,c≠[.dl rows]
class NDf{α:Type}(f:α->PV):Prop where
 h:∀a rows,f a≠ .dl rows
instance {kd:IntKind}:NDf (PV.int kd):=⟨by intro a rows h;cases h⟩
instance:NDf PV.str:=⟨by intro a rows h;cases h⟩
instance {m:Bool}:NDf (cK m):=⟨by intro a rows h;cases h⟩
instance {α:Type}{f:α->PV}[a:NDf f]{l:List α}:NDl (l.map f):=⟨by
 intro rows h;cases l with
 |nil=>cases h
 |cons x l=>simp only[zC3,List.cons.injEq]at h;exact a.h _ _ h.1⟩
instance {x y:PV}{l:List PV}:NDl (x::y::l):=⟨by intro rows h;cases h⟩
theorem RE[a:NDl c]:xx m c=.live m c:=by
 unfold xx;split
 .rename_i rows;exact absurd rfl (a.h rows)
 .rfl
theorem th[a:NDl c]:xy c=c.length:=by
 unfold xy;split
 .rename_i rows;exact absurd rfl (a.h rows)
 .rfl
theorem Rj{c0:List PV}[a:NDl c]:gi none (some (some c)) (.live m c0)=.live m c:=by
 unfold gi;split<;>first|rfl|skip
 all_goals first|(rename_i h _;cases h;exact absurd rfl (a.h _))|(rename_i h;cases h;exact absurd rfl (a.h _))|simp_all
theorem rW{b:Blk}:gi none (some none) b=.dead:=by cases b<;>rfl
theorem SI:sI (.live m c)=m:=_root_.id rfl
theorem oY{ms:List (Option (Nat×Option Nat))}{r:Option Nat}
  (hf:CallT P tk f (.mu p c::as) outs res) (hn:(ms.all Option.isNone)=true) (hid:id∉rd)
  (hc:C ⟨impAll k res,(id,gi r outs[0]? (h id))::impWs (tk&&sI (h id)) k res,id::rd⟩):Pk P h k f C (.mu p c::as) rd (some (id,r)::ms):=by
 have e1':db (some (id,r)::ms)=[id]:=by
  have:ms.filterMap (λm=>m.map (·.1))=[]:=by
   rw[List.filterMap_eq_nil_iff];intro a ha;have:=zC8.1 hn a ha;cases a with
   |none=>rfl
   |some _=>simp at this
  grind [db]
 have ho:∀(l:List (Option (Nat×Option Nat))) (j:Nat),(l.all Option.isNone)=true->fo h outs j l=[]:=λl=>by
  induction l with
  |nil=>intro j _;rfl
  |cons x l ih=>
   intro j hj;simp only[zH7,zB9]at hj;cases x with
   |none=>exact ih (j+1) hj.2
   |some _=>simp at hj
 refine⟨⟨by rw[e1'];simp,by grind⟩,tk,outs,res,hf,tk&&sI (h id),λe1 e2 i hi=>by grind, ?_⟩;grind [fo]
def xL(tk:Bool)(as:List Arg)(outs:List (Option (List PV)))(ts:List Nat)(res:List PV)(ex:Ex)(S:St):Prop:=
 match ex with
 | .exit _=>False
 |_=>yO tk S as outs (ts.map S.e) res
theorem CallT.of(hm:P.follows .mixedOrders=true){fn:Func}{code:Code}
  (hf:P.funcs[f]? =some fn) (hb:fn.body=some code) (hname:(fn.name== "runtime.NumGoroutine")=false) (hres:fn.results=⟨ts.map .tmp⟩) (hargs:decide (as.length<=fn.ntmps)=true)
  (hck:ig fn.ntmps code=true) (hnr:noRoL res=true) (hro:jA res=true) (houts:(outs.all λo=>o.all noRoL)=true)
  (hw:ka P sg code (xL tk as outs ts res) (iw as)):CallT P tk f as outs res:=
 CallT.of_wp hm hf hb hname hres (of_decide_eq_true hargs) hnr hro houts (wp_mono _ (λex S h=>by cases ex with|exit id=>exact h|normal=>exact resW_tmp.symm▸h|ret=>exact resW_tmp.symm▸h) (sK _ hck hw))
theorem VG{ex:Ex}{os:List (Option (List PV))}(hx:ex=.ret\/ex=.normal)
  (ho:(os.all Option.isNone)=true) (hl:S.h 0=xx true c') (hf:fu tk S.h (as.length+1) (ts.map S.e) xs λL=>L.Pairwise Dj/\0∉L.map λq=>q.2.1):
  xL tk (.mu p c::as) (some c'::os) ts xs ex S:=by
 have key:yO tk S (.mu p c::as) (some c'::os) (ts.map S.e) xs:=by
  unfold yO;refine Eq.mp (zB5 (fu tk S.h (as.length+1) (ts.map S.e) xs) ?_) hf;funext L;apply propext;constructor
  .rintro⟨h1,h2⟩
   refine⟨h1,λj hj=> ?_⟩;cases j with
   |zero=>exact⟨hl,h2⟩
   |succ j=>
    simp only[zG5];split
    .rename_i c0 hc0
     have:=zC8.1 ho _ (zF9 hc0);simp at this
    .trivial
  .rintro⟨h1,h2⟩
   exact⟨h1,(h2 0 (by simp)).2⟩
 rcases hx with rfl|rfl<;>exact key
theorem VC{ex:Ex}{os:List (Option (List PV))}(hx:ex=.ret\/ex=.normal)
  (ho:(os.all Option.isNone)=true) (hf:fu tk S.h (as.length+1) (ts.map S.e) xs F0):
  xL tk (.mu p c::as) os ts xs ex S:=by
 have key:yO tk S (.mu p c::as) os (ts.map S.e) xs:=by
  unfold yO;refine Eq.mp (zB5 (fu tk S.h (as.length+1) (ts.map S.e) xs) ?_) hf;funext L;simp only[F0];apply propext;constructor
  .intro h1
   refine⟨h1,λj hj=> ?_⟩;split
   .rename_i c0 _ hc0
    have:=zC8.1 ho _ (zF9 hc0);simp at this
   .trivial
  .exact λh=>h.1
 rcases hx with rfl|rfl<;>exact key
def F1(L:List (Nat×Nat×Pl)):Prop:=L.Pairwise Dj/\0∉L.map λq=>q.2.1
theorem YZ:F1 []:=by simp[F1]
def Zr(ops:Array Oper)(ws:List Bool):List (Nat×Nat):=
 (List.range ops.size).flatMap λj=>(List.range j).filterMap λi=>
  if(ws.getD i false||ws.getD j false)&& !mc ops ops.size i j then some (i,j)else none
def ow:List (List (Nat×Blk)×List Nat)->List Bool->Bool
 |[],[]=>true
 |p::L,w::ws=>(p.1.isEmpty||w)&&ow L ws
 |_,_=>false
theorem ya:∀{L:List (List (Nat×Blk)×List Nat)} {ws:List Bool},ow L ws=true->∀i,ws.getD i false=false->(L.getD i ([],[])).1=[]
 |[],[],_,i,_=>by simp
 |p::L,w::ws,h,0,hi=>by
  grind [ow]
 |p::L,w::ws,h,i+1,hi=>by
  simp only[ow,zB9]at h;simp only[List.getD_cons_succ]at hi |-
  exact ya h.2 i hi
 |[],_::_,h,_,_=>by simp[ow]at h
 |_::_,[],h,_,_=>by simp[ow]at h
def Uy(i:Nat):List Nat->Prop
 |[]=>True
 |j::l=>i≠j/\Uy i l
def BV(i:Nat):List (Nat×Blk)->Prop
 |[]=>True
 |(j,_)::l=>i≠j/\BV i l
def Po:List (Nat×Blk)->List (Nat×Blk)->List Nat->Prop
 |[],_,_=>True
 |(i,_)::ws,bs,rd=>Uy i rd/\BV i bs/\Po ws bs rd
theorem GD{i:Nat}:∀{l:List Nat},Uy i l->i∉l
 |[],_=>by simp
 |j::l,h=>by simp only[Uy]at h;simp[h.1,GD h.2]
theorem BU{i:Nat}:∀{l:List (Nat×Blk)},BV i l->∀q∈l,i≠q.1
 |[],_=>by simp
 |(j,b)::l,h=>by
  simp only[BV]at h;intro q hq;rcases zD7.1 hq with rfl|hq
  .exact h.1
  .exact BU h.2 q hq
theorem yK{a b:List (Nat×Blk)×List Nat}(h:Po a.1 b.1 b.2):clear a b:=by
 obtain⟨ws,rd⟩:=a;simp only at h;intro p hp;simp only at hp
 induction ws with
 |nil=>simp at hp
 |cons w ws ih=>
  obtain⟨i,bl⟩:=w;simp only[Po]at h;rcases zD7.1 hp with rfl|hp
  .exact⟨GD h.1,BU h.2.1⟩
  .exact ih h.2.2 hp
def Tu(a b:List (Nat×Blk)×List Nat):Prop:=Po a.1 b.1 b.2/\Po b.1 a.1 a.2
def oQ(L:List (List (Nat×Blk)×List Nat)):List (Nat×Nat)->Prop
 |[]=>True
 |(i,j)::ps=>Tu (L.getD i ([],[])) (L.getD j ([],[]))/\oQ L ps
theorem yJ{L:List (List (Nat×Blk)×List Nat)}:∀{ps:List (Nat×Nat)},oQ L ps->∀p∈ps,Tu (L.getD p.1 ([],[])) (L.getD p.2 ([],[]))
 |[],_=>by simp
 |(i,j)::ps,h=>by
  simp only[oQ]at h;intro p hp;rcases zD7.1 hp with rfl|hp
  .exact h.1
  .exact yJ h.2 p hp
theorem Do{ops:Array Oper}{L:List (List (Nat×Blk)×List Nat)}(ws:List Bool)(ps:List (Nat×Nat))(hw:ow L ws=true)(hp:Zr ops ws=ps)
  (h:oQ L ps):lj ops L:=by
 intro j hj i hi;by_cases hb:mc ops ops.size i j=true
 .exact .inl hb
 right;by_cases hw':(ws.getD i false||ws.getD j false)=true
 .have:(i,j)∈ps:=by
   subst hp;unfold Zr;rw[List.mem_flatMap];refine⟨j,zD5.2 hj, ?_⟩;grind
  have:=yJ h _ this;exact⟨yK this.1,yK this.2⟩
 grind [clear,ya]
theorem Zt{L:List (List (Nat×Blk)×List Nat)}:oQ L []=True:=_root_.id rfl
theorem TD{L:List (List (Nat×Blk)×List Nat)}{i:Nat}{ps:List (Nat×Nat)}:oQ L ((i,j)::ps)=(Tu (L.getD i ([],[])) (L.getD j ([],[]))/\oQ L ps):=_root_.id rfl
theorem adz{a b:List (Nat×Blk)×List Nat}:Tu a b=(Po a.1 b.1 b.2/\Po b.1 a.1 a.2):=_root_.id rfl
theorem Zw:Po [] bs rd=True:=_root_.id rfl
theorem TE{i:Nat}{b:Blk}:Po ((i,b)::ws) bs rd=(Uy i rd/\BV i bs/\Po ws bs rd):=_root_.id rfl
theorem Xo{i:Nat}:Uy i []=True:=_root_.id rfl
theorem Rv{i:Nat}{l:List Nat}:Uy i (j::l)=(i≠j/\Uy i l):=_root_.id rfl
theorem Xr{i:Nat}:BV i []=True:=_root_.id rfl
theorem Rw{i:Nat}{b:Blk}:BV i ((j,b)::l)=(i≠j/\BV i l):=_root_.id rfl
def apJ(m:Bool)(l j:List PV)(id k:Nat)(C:R->Prop)(ys:List PV)(rd:List Nat):Prop:=apB (.live m (l++j)) id 0 l.length k C ys rd
theorem agx{α:Type}{f:α->PV}{l j:List α}:apB (.live m (List.map f (l++j))) id 0 l.length k C ys rd=apJ m (l.map f) (j.map f) id k C ys rd:=by
 grind [apJ]
theorem Ks{α:Type}{f:α->PV}{l j:List α}(hl:l.length+ys.length<=1099511627776)
  (hc:∀j':List α,C ⟨.ref k 0 (l.length+ys.length),[(id,.dead),(k,.live m (l.map f++ys++j'.map f))],id::rd⟩):apJ m (l.map f) (j.map f) id k C ys rd:=by
 unfold apJ apB;simp only[zB2,zA3,zI0];refine⟨hl,by omega, ?_⟩;split
 .grind
 .split
  .rename_i hj
   have:=hc (j.drop ys.length);simp_all [List.take_append,List.drop_append,List.drop_eq_nil_of_le,zE1,zB2,List.map_drop]
  .have:=hc []
   grind
theorem Nr{α β:Type}{f:α->β}{l:List α}{i:Nat}{K:β->Prop}(d:α):UW (Option.map f l[i]?) K=(i<l.length/\K (f (l.getD i d))):=by
 grind [UW]
theorem Yt{f:Int->PV}{l:List Int}{i:Nat}{K:PV->Prop}:UW (Option.map f l[i]?) K=(i<l.length/\K (f (l.getD i 0))):=Nr 0
theorem Sx{f:Bool->PV}{l:List Bool}{i:Nat}{K:PV->Prop}:UW (Option.map f l[i]?) K=(i<l.length/\K (f (l.getD i false))):=Nr false
theorem Sw{α:Type}{f:List α->PV}{l:List (List α)}{i:Nat}{K:PV->Prop}:UW (Option.map f l[i]?) K=(i<l.length/\K (f (l.getD i []))):=Nr []
theorem acF{l:List UInt8}{i:Nat}{K:UInt8->Prop}:UW l[i]? K=(i<l.length/\K (l.getD i 0)):=by
 have:=Nr (f:=id) (l:=l) (i:=i) (K:=K) 0;grind
def OwnL{α:Type}(v:AV)(h:Nat->Blk)(n:Nat)(f:α->PV)(len:Nat)(l:List α):Prop:=
 match v with
 | .ref id 0 len'=>len'=len/\h id=.live false (l.map f)/\id<n
 |_=>False
def FroL{α:Type}(v:AV)(h:Nat->Blk)(n:Nat)(f:α->PV)(len:Nat)(l:List α):Prop:=
 match v with
 | .ref id 0 len'=>len'=len/\h id=.froz false (l.map f)/\id<n
 |_=>False
def NId(v v':AV):Prop:=
 match v,v' with
 | .ref i _ _,.ref j _ _=>i≠j
 |_,_=>False
def hbL{α:Type}(b:Blk)(f:α->PV)(l:List α):Prop:=b=.live false (l.map f)
def hbF{α:Type}(b:Blk)(f:α->PV)(l:List α):Prop:=b=.froz false (l.map f)
theorem OwnL.out{α:Type}{h:Nat->Blk}{f:α->PV}{l:List α}(ho:OwnL v h n f len l):∃id,v=.ref id 0 len/\h id=.live false (l.map f)/\id<n:=by
 unfold OwnL at ho;grind
theorem FroL.out{α:Type}{h:Nat->Blk}{f:α->PV}{l:List α}(ho:FroL v h n f len l):∃id,v=.ref id 0 len/\h id=.froz false (l.map f)/\id<n:=by
 unfold FroL at ho;grind
theorem NId.out{v':AV}{i l i' o':Nat}(h:NId v v')(e:v=.ref i o l)(e':v'=.ref i' o' l'):i≠i':=by
 subst e;subst e';exact h
theorem QX{α:Type}{h:Nat->Blk}{f:α->PV}{l:List α}:OwnL (.ref id 0 len') h n f len l=(len'=len/\hbL (h id) f l/\id<n):=_root_.id rfl
theorem SF{α:Type}{h:Nat->Blk}{f:α->PV}{l:List α}:FroL (.ref id 0 len') h n f len l=(len'=len/\hbF (h id) f l/\id<n):=_root_.id rfl
theorem Yq{α:Type}{f:α->PV}{l:List α}:hbL (.live false c) f l=(c=l.map f):=by simp[hbL]
theorem Yr{α:Type}{f:α->PV}{l:List α}:hbF (.froz false c) f l=(c=l.map f):=by simp[hbF]
theorem Xn{i l i' o':Nat}:NId (.ref i o l) (.ref i' o' l')=(i≠i'):=_root_.id rfl
theorem uL{l:List Int}:noRoL (l.map (PV.int kd))=true:=dv (λ_=>rfl) l
theorem Rl{l:List (List UInt8)}:noRoL (l.map PV.str)=true:=dv (λ_=>rfl) l
theorem Rm{l:List (List Int)}:noRoL (l.map (cK false))=true:=dv (λ_=>Mk) l
theorem f_2{p q:Nat×Nat×Pl}:F0 [p,q]=Dj p q:=by simp[F0]
theorem adn{i:Nat}{pl:Pl}:Dj (k,i,pl) (k',j,.o o)=(i≠j):=by simp[Dj,Pl.row]
theorem adp{i:Nat}{s:List (Option Nat)}{pl:Pl}:Dj (k,i,pl) (k',j,.d o s)=(i≠j):=by simp[Dj,Pl.row]
theorem ado{i r':Nat}:Dj (k,i,.n (some r)) (k',j,.n (some r'))=(i≠j\/r≠r'):=by simp[Dj,Pl.row]
def FLx(h:Nat->Blk)(k:Nat)(vs:List AV)(xs:List PV)(F:List (Nat×Nat×Pl)->Prop)(L:List (Nat×Nat×Pl)):Prop:=sr false h k vs xs (FL L F)
theorem YR{F:List (Nat×Nat×Pl)->Prop}:fin false h k (.agg vs) (.agg xs) F=sr false h (k+1) vs xs F:=_root_.id rfl
theorem SZ{F:List (Nat×Nat×Pl)->Prop}:fin false h k (.p (.agg ys)) (.agg xs) F=sr false h (k+1) (ys.map .p) xs F:=_root_.id rfl
theorem YY{F:List (Nat×Nat×Pl)->Prop}:sr false h k [] [] F=F []:=_root_.id rfl
theorem Tc{F:List (Nat×Nat×Pl)->Prop}:sr false h k (v::vs) (x::xs) F=mJ false h k v x (FLx h (k+1) vs xs F):=_root_.id rfl
theorem YW{F:List (Nat×Nat×Pl)->Prop}{L:List (Nat×Nat×Pl)}:FLx h k vs xs F L=sr false h k vs xs (FL L F):=_root_.id rfl
theorem Td{F:List (Nat×Nat×Pl)->Prop}:mJ false h k v (.bool b) F=(v=.p (.bool b)/\F []):=_root_.id rfl
theorem adb{F:List (Nat×Nat×Pl)->Prop}:mJ false h k (.p (.sl (.lent false) ys)) (.sl (.lent false) xs) F=(ys=xs/\F []):=_root_.id rfl
end
attribute [go_sem ↓] PB HC PD PE aaD aaC aeT aeS Vw PA PF aaH AU
attribute [go_sem] ab9 XF Ey BZ Ew BY Ev Id NW
attribute [go_sem] abd afb abe TG TF adG Zy Wd Wf We Ki VX PT VV PP VW KT aae aaf KO
attribute [go_sem] WE QQ afl afm aca RD ad2 TQ Mh Zb ac3 YQ adJ adI YH SP SO aco Rd Xa Xb
attribute [go_sem] Zp Tx Zo Oj ads XI XH acO afj abx WP WO WU WH WG aaQ QR Xq
attribute [go_sem] XA RC ab5 XB ab4 ab6 Rj rW Zt TD adz Zw TE Xo Rv Xr Rw RE th f_2 YR SZ YY Tc YW Td adb
attribute [go_sem] zE4 Option.map_none List.set_cons_zero List.set_cons_succ Option.isNone_none zH7 List.all_nil zA7 Nat.sub_zero zI3 Int.toNat_zero Tz Oz
attribute [go_sem] Yt Sx Sw acF
attribute [go_sem] adn adp ado
attribute [go_sem] SI QX SF Yq Yr Xn
attribute [go_sem high] agx
theorem Rs{n:Int}:noRo (.int kd n)=true:=_root_.id rfl
theorem Mm:noRo (.bool b)=true:=_root_.id rfl
theorem Ro:noRo (.str s)=true:=_root_.id rfl
theorem Rp:noRo (.sl .own xs)=noRoL xs:=_root_.id rfl
theorem Ml:noRo (.sl (.lent false) xs)=noRoL xs:=_root_.id rfl
theorem Rt:noRo (.agg xs)=noRoL xs:=_root_.id rfl
class Imp1(k:Nat)(x:PV)(v:outParam AV)(ws:outParam (List (Nat×Blk))):Prop where
 h:imp1 k x=v/\impW1 false k x=ws
instance {k:Nat}{b:Bool}:Imp1 k (.bool b) (.p (.bool b)) []:=⟨rfl,rfl⟩
instance {m:Bool}{k:Nat}{s:List PV}:Imp1 k (.sl (.lent m) s) (.p (.sl (.lent m) s)) []:=⟨by cases m<;>rfl,by cases m<;>rfl⟩
class ImpLs(k:Nat)(xs:List PV)(vs:outParam (List AV))(ws:outParam (List (Nat×Blk))):Prop where
 h:impL k xs=vs/\impWL false k xs=ws
instance {k:Nat}:ImpLs k [] [] []:=⟨rfl,rfl⟩
instance {k:Nat}{x:PV}{v:AV}{xs:List PV}{vs:List AV}{ws:List (Nat×Blk)}[a:Imp1 k x v []][b:ImpLs (k+1) xs vs ws]:ImpLs k (x::xs) (v::vs) ws:=
 ⟨by rw[impL,a.h.1,b.h.1],by rw[impWL,a.h.2,b.h.2];rfl⟩
class ImpO(k:Nat)(x:PV)(v:outParam AV)(ws:outParam (List (Nat×Blk))):Prop where
 h:imp k x=v/\impW false k x=ws
instance {k:Nat}{kd:IntKind}{n:Int}:ImpO k (.int kd n) (.p (.int kd n)) []:=⟨rfl,rfl⟩
instance {k:Nat}{b:Bool}:ImpO k (.bool b) (.p (.bool b)) []:=⟨rfl,rfl⟩
instance {k:Nat}{s:List UInt8}:ImpO k (.str s) (.p (.str s)) []:=⟨rfl,rfl⟩
instance {α:Type}{k:Nat}{f:α->PV}{s:List α}:ImpO k (.sl .own (s.map f)) (.ref k 0 s.length) [(k,.live false (s.map f))]:=⟨by simp[imp,imp1],rfl⟩
instance {k:Nat}{xs:List PV}{vs:List AV}{ws:List (Nat×Blk)}[a:ImpLs (k+1) xs vs ws]:ImpO k (.agg xs) (.agg vs) ws:=⟨by rw[imp,a.h.1],by rw[impW,a.h.2]⟩
class ImpS(k:Nat)(xs:List PV)(vs:outParam (List AV))(ws:outParam (List (Nat×Blk))):Prop where
 h:imps k xs=vs/\impWs false k xs=ws
instance {k:Nat}:ImpS k [] [] []:=⟨rfl,rfl⟩
instance {k:Nat}{x:PV}{v:AV}{xs:List PV}{vs:List AV}{ws:List (Nat×Blk)}[a:ImpO k x v []][b:ImpS (k+16) xs vs ws]:ImpS k (x::xs) (v::vs) ws:=
 ⟨by rw[imps,a.h.1,b.h.1],by rw[impWs,a.h.2,b.h.2];rfl⟩
instance {k:Nat}{x:PV}{v:AV}{w:Nat×Blk}{xs:List PV}{vs:List AV}{ws:List (Nat×Blk)}[a:ImpO k x v [w]][b:ImpS (k+16) xs vs ws]:ImpS k (x::xs) (v::vs) (w::ws):=
 ⟨by rw[imps,a.h.1,b.h.1],by rw[impWs,a.h.2,b.h.2];rfl⟩
class ImpA(k:Nat)(xs:List PV)(v:outParam AV)(ws:outParam (List (Nat×Blk))):Prop where
 h:impAll k xs=v/\impWs false k xs=ws
instance {k:Nat}:ImpA k [] (.tup []) []:=⟨rfl,rfl⟩
instance {k:Nat}{x:PV}{v:AV}{ws:List (Nat×Blk)}[a:ImpO k x v ws]:ImpA k [x] v ws:=⟨by rw[impAll,a.h.1],by rw[impWs,a.h.2,impWs,zC0]⟩
instance {k:Nat}{x y:PV}{xs:List PV}{vs:List AV}{ws:List (Nat×Blk)}[a:ImpS k (x::y::xs) vs ws]:ImpA k (x::y::xs) (.tup vs) ws:=⟨by rw[impAll,a.h.1];intro z h;simp at h,a.h.2⟩
section
variable {S:St}{P:Program}{h:Nat->Blk}{C:R->Prop}
theorem bv(hf:Fun P f xs res)[a:ImpA k res v ws](hc:C ⟨v,ws,rd⟩):PkX P h k f C xs rd:=
 VJ hf (by rw[a.h.1,a.h.2];exact hc)
theorem fI{os:List (Option (List PV))}{ms:List (Option (Nat×Option Nat))}
  (hf:CallT P false f (.mu p c::as) (some c'::os) res) [a:ImpA k res v ws] (hn:(ms.all Option.isNone)=true) (hid:id∉rd)
  (hc:C ⟨v,(id,gi none (some (some c')) (h id))::ws,id::rd⟩):Pk P h k f C (.mu p c::as) rd (some (id,none)::ms):=by
 refine oY hf hn hid ?_;rw[zH9,a.h.1,a.h.2,zF3];exact hc
theorem Wy{F:List PV->List Nat->Prop}:zM h (List.map AV.p caps) F=F (caps.map PV.cell) []:=by
 induction caps generalizing F with
 |nil=>rfl
 |cons c caps ih=>grind [q_p,abr]
theorem ad4:bH (.mu p c::as) 0=xx true c:=_root_.id rfl
theorem ad3:bH (.pv x::as) 0=.dead:=_root_.id rfl
theorem agz{a:Arg}:bH (a::as) (j+1)=bH as j:=by simp[bH]
theorem VF{ex:Ex}{os:List (Option (List PV))}(hx:ex=.ret\/ex=.normal)
  (ho:(os.all Option.isNone)=true) (hl:S.h 0=xx true c') (hf:fu tk S.h (as.length+1) (ts.map S.e) xs F1):
  xL tk (.mu p c::as) (some c'::os) ts xs ex S:=VG hx ho hl hf
end
attribute [go_sem] Wy VM Zf QH ad4 ad3 agz YZ
end Go.Gl
namespace Go.Gl
open Go Go.RowKit Go.ChangeShapes
section
variable {H:Type}{enc:TypeId×Value->H}{P:Program}{w:World}{base:Nat}{sp:Nat->Bool}{held:Bool}{G:Nat->Prop}
end
end Go.Gl
namespace Go.Gl
open Go
variable [Amb]
section
variable {P:Program}{sg:FuncId->List Bool}{h:Nat->Blk}{k:Nat}{C:R->Prop}{A:AV->Prop}
def ldA(b:Blk)(id off n:Nat)(C:R->Prop):Prop:=
 match b with
 | .live _ c=>off+n<=c.length/\C ⟨.p (.agg ((c.drop off).take n)),[],[id]⟩
 | .froz _ c=>off+n<=c.length/\C ⟨.p (.agg ((c.drop off).take n)),[],[id]⟩
 | .deep _ cs rs=>off+n<=cs.length/\C ⟨.agg (((cs.drop off).take n).map (DC.av id rs)),[],[id]⟩
 |_=>False
theorem RT:RU (some (n,true)) h (.ptr id off) C=ldA (h id) id off n C:=by
 grind [RU,ldA]
theorem MS:ldA (.live m c) id off n C=(off+n<=c.length/\C ⟨.p (.agg ((c.drop off).take n)),[],[id]⟩):=_root_.id rfl
def BX(k:Nat)(C:R->Prop)(xs:List PV)(ws:List (Nat×Blk))(rd:List Nat):Prop:=xs≠[]/\xs.length<=1000000/\C ⟨.ptr k 0,ws++[(k,.live false xs)],rd⟩
theorem adE:OF h k v C=fm h v (BX k C):=_root_.id rfl
theorem adD:BX k C xs ws rd=(xs≠[]/\xs.length<=1000000/\C ⟨.ptr k 0,ws++[(k,.live false xs)],rd⟩):=_root_.id rfl
variable {K:List PV->List (Nat×Blk)->List Nat->Prop}
theorem Zn:fm h (.p (.agg xs)) K=(xs.all (λx=>x.cell.cellOk)=true/\K (xs.map PV.cell) [] []):=_root_.id rfl
theorem To:fm h (.agg vs) K=nQ h vs K:=_root_.id rfl
theorem Tn{s:List PV}:fm h (.p (.sl (.lent m) s)) K=K [.sl (.lent m) s] [] []:=by cases m<;>simp[fm,Ek,PV.cell,PV.cellOk,Fl.lent]
def ST(h:Nat->Blk)(n id off:Nat)(m:Bool)(c:List PV)(C:R->Prop)(xs:List PV)(ws:List (Nat×Blk))(rd:List Nat):Prop:=
 xs.length=n/\off+n<=c.length/\id∉rd/\C ⟨.p .any,ws++[(id,.live m (c.take off++xs++c.drop (off+n)))],id::rd⟩
def STD(m:Bool)(n id off:Nat)(cs:List DC)(C:R->Prop)(xs:List DC)(rs:List (Option (List PV)))(ws:List (Nat×Blk))(rd:List Nat):Prop:=
 xs.length=n/\off+n<=cs.length/\C ⟨.p .any,ws++[(id,.deep m (cs.take off++xs++cs.drop (off+n)) rs)],id::rd⟩
def stA(b:Blk)(h:Nat->Blk)(n id off:Nat)(v:AV)(C:R->Prop):Prop:=
 match b with
 | .live m c=>fm h v (ST h n id off m c C)
 | .deep m cs rs=>kO h m id (i7 v) rs (STD m n id off cs C)
 |_=>False
theorem VY:DR (some (n,true)) h (.ptr id off) v C=stA (h id) h n id off v C:=by
 simp only[DR,stA];rfl
theorem KQ:stA (.live m c) h n id off v C=fm h v (ST h n id off m c C):=_root_.id rfl
theorem aa4:ST h n id off m c C xs ws rd=(xs.length=n/\off+n<=c.length/\id∉rd/\C ⟨.p .any,ws++[(id,.live m (c.take off++xs++c.drop (off+n)))],id::rd⟩):=_root_.id rfl
end
attribute [go_sem] RT MS adE adD Zn To Tn VY KQ aa4 List.not_mem_nil zD7 or_false zH7 List.all_nil List.take_succ_cons List.drop_succ_cons List.take_zero
section
variable {P:Program}{sg:FuncId->List Bool}{h:Nat->Blk}{k:Nat}{ρ:Operand->AV}{C:R->Prop}{S:St}{x y:Operand}{t t':TypeId}{kd kd':IntKind}{m n:Int}{V:PV->Prop}
theorem aay{op:Op}(hs:ga sg=true)(hx:Pi op=true):pg P sg ρ h k op C=Rb P ρ h op C:=by simp[pg,hs,hx]
theorem aax{op:Op}(hs:ga sg=true)(hn:gu sg=false)(h3:gs sg=false)(h4:gr sg=false)(h5:gB sg=false)(hx:Pi op=false):pg P sg ρ h k op C=lH P sg ρ h k op C:=by grind [pg,Nh]
def SLx(c id off:Nat)(C:R->Prop)(h l:Int):Prop:=0<=l/\l<=h/\off+h.toNat<=c/\C ⟨.ref id (off+l.toNat) (h.toNat-l.toNat),[],[id]⟩
def SLy(len id:Nat)(C:R->Prop)(m h l:Int):Prop:=0<=l/\l<=h/\h<=m/\m<=len/\C ⟨.p .any,[],[id]⟩
def sxB(b:Blk)(s:Bool)(id off len:Nat)(lo hi mx:Option AV)(C:R->Prop):Prop:=
 match b with
 | .live _ c=>s=true/\off+len<=c.length/\(match mx with
  |none=>FB hi len (BL lo (SLx c.length id off C))
  |some _=>hi≠none/\FB mx 0 (BL3 hi lo (SLy len id C)))
 |_=>False
theorem Px{lo hi mx:Option Operand}:Rb P ρ h (.slice t x lo hi mx) C=kJ P t (ρ x) lo hi mx h ρ C:=_root_.id rfl
theorem VQ{lo hi mx:Option Operand}:kJ P t (.ref id off len) lo hi mx h ρ C=sxB (h id) (jK P t).isSome id off len (lo.map ρ) (hi.map ρ) (mx.map ρ) C:=by
 simp only[kJ,sxB,AE];cases h id with
 |live m c=>
  cases mx with
  |none=>rfl
  |some o=>
   simp only[zE4];have:(hi≠none)=(Option.map ρ hi≠none):=by cases hi<;>simp
   rw[this];rfl
 |froz m c=>rfl
 |deep m cs rs=>rfl
 |_=>rfl
theorem PL{s:Bool}{lo hi:Option AV}:sxB (.live mm c) s id off len lo hi none C=(s=true/\off+len<=c.length/\FB hi len (BL lo (SLx c.length id off C))):=_root_.id rfl
theorem KI{s:Bool}{lo:Option AV}{hi mx:AV}:sxB (.live mm c) s id off len lo (some hi) (some mx) C=(s=true/\off+len<=c.length/\FB (some mx) 0 (BL3 (some hi) lo (SLy len id C))):=by
 simp[sxB]
theorem Wc{c:Nat}{i j:Int}:SLx c id off C i j=(0<=j/\j<=i/\off+i.toNat<=c/\C ⟨.ref id (off+j.toNat) (i.toNat-j.toNat),[],[id]⟩):=_root_.id rfl
theorem Wb{l i j:Int}:SLy len id C l i j=(0<=j/\j<=i/\i<=l/\l<=len/\C ⟨.p .any,[],[id]⟩):=_root_.id rfl
def clB(s:Option (Nat×PV))(b:Blk)(id off len:Nat)(C:R->Prop):Prop:=
 match s,b with
 |some (_,z),.live m c=>off+len<=c.length/\z.cellOk=true/\C ⟨.p .any,[(id,.live m (c.take off++List.replicate len z++c.drop (off+len)))],[id]⟩
 |some (_,z),.deep m cs rs=>z=.sl .fr []/\off+len<=cs.length/\C ⟨.p .any,[(id,.deep m (cs.take off++List.replicate len (.v (.sl .own []))++cs.drop (off+len)) rs)],[id]⟩
 |_,_=>False
theorem Py:Rb P ρ h (.call {callee:=.builtin .clear,args:=⟨[x]⟩,argTypes:=⟨[t]⟩}) C=li P t h (ρ x) C:=_root_.id rfl
theorem Zs:li P t h (.ref id off len) C=clB (jK P t) (h id) id off len C:=by
 grind [li,clB]
theorem Tv{q:Nat}{z:PV}:clB (some (q,z)) (.live mm c) id off len C=(off+len<=c.length/\z.cellOk=true/\C ⟨.p .any,[(id,.live mm (c.take off++List.replicate len z++c.drop (off+len)))],[id]⟩):=_root_.id rfl
theorem Nf{lo hi mx:Option Operand}:Pi (.slice t x lo hi mx)=true:=_root_.id rfl
theorem Ng:Pi (.call {callee:=.builtin .clear,args:=⟨[x]⟩,argTypes:=⟨[t]⟩})=true:=_root_.id rfl
theorem Yd:Pi (.binOp .eql t x y t')=false:=_root_.id rfl
theorem RZ:Pi (.move x)=It x:=_root_.id rfl
theorem aeP:Rb P ρ h (.assign x) C=Ur (ρ x) C:=_root_.id rfl
theorem Xm:Ur (.p (.sl .own xs)) C=C ⟨.p .nl,[],[]⟩:=_root_.id rfl
theorem Ir:Pi (.assign x)=It x:=_root_.id rfl
theorem Yc:Pi (.call {callee:=.builtin .len,args:=⟨[x]⟩,argTypes:=⟨[t]⟩})=false:=_root_.id rfl
theorem Is:Pi (.call {callee:=.builtin .append,args:=⟨[x,y]⟩,argTypes:=⟨[t,t']⟩})=false:=_root_.id rfl
theorem nq1{a b:Nat}:(a=a+(b+1))=False:=zC6 (by omega)
theorem nq2{a b:Nat}:(a+(b+1)=a)=False:=zC6 (by omega)
def OwnM{α:Type}(v:AV)(h:Nat->Blk)(n:Nat)(f:α->PV)(len:Nat)(l:List α):Prop:=
 match v with
 | .ref id 0 len'=>len'=len/\(∃m,h id=.live m (l.map f))/\id<n
 |_=>False
def hbM{α:Type}(b:Blk)(f:α->PV)(l:List α):Prop:=∃m,b=.live m (l.map f)
theorem OwnM.out{α:Type}{h:Nat->Blk}{n:Nat}{f:α->PV}{l:List α}(ho:OwnM v h n f len l):∃id m,v=.ref id 0 len/\h id=.live m (l.map f)/\id<n:=by
 unfold OwnM at ho;grind
theorem LW{α:Type}{h:Nat->Blk}{n:Nat}{f:α->PV}{l:List α}:OwnM (.ref id 0 len') h n f len l=(len'=len/\hbM (h id) f l/\id<n):=_root_.id rfl
theorem Yp{α:Type}{f:α->PV}{l:List α}:hbM (.live mm c) f l=(c=l.map f):=by simp[hbM]
def fiT(b:Blk)(off len:Nat)(ys:List PV):Prop:=
 match b with
 | .live _ c=>off+len<=c.length/\(c.drop off).take len=ys
 |_=>False
theorem Yy:fu true h k [.ref id off len] [.sl .own ys] F0=fiT (h id) off len ys:=by
 grind [fu,fin,mJ,fiT,F0]
theorem NQ:fiT (.live mm c) off len ys=(off+len<=c.length/\(c.drop off).take len=ys):=_root_.id rfl
theorem fF{α:Type}{g:α->PV}{l:List α}{os:List (Option (List PV))}{ms:List (Option (Nat×Option Nat))}
  (hf:CallT P true f (.mu false c::as) (none::os) [.sl .own (l.map g)]) (hn:(ms.all Option.isNone)=true) (hid:id∉rd)
  (hc:C ⟨.ref k 0 l.length,[(id,.dead),(k,.live (sI (h id)) (l.map g))],id::rd⟩):Pk P h k f C (.mu false c::as) rd (some (id,none)::ms):=by
 refine oY hf hn hid ?_;simp only[zF3];have:impAll k [.sl .own (l.map g)]=.ref k 0 l.length:=by simp[impAll,imp,imp1]
 rw[this,zF4];exact hc
theorem VD{ex:Ex}{os:List (Option (List PV))}(hx:ex=.ret\/ex=.normal)
  (ho:(os.all Option.isNone)=true) (hf:fu true S.h (as.length+1) (ts.map S.e) xs F0):xL true (.mu p c::as) os ts xs ex S:=VC hx ho hf
def FC(S:St)(as:List Arg)(res:List PV)(r:R):Prop:=fu false S.h as.length [r.v] res F0
theorem VH{t:Nat}{ex:Ex}(hx:ex=.ret\/ex=.normal)(hf:gq P ty S.h (S.e t) (FC S as xs)):TW P as [.cell t ty] xs ex S:=by
 have key:mX P S [.cell t ty] λvs=>yO false S as [] vs xs:=by
  simp only[mX];have e:FC S as xs=λr=>yO false S as [] [r.v] xs:=by
   funext r;unfold FC yO;refine zB5 (fu false S.h as.length [r.v] xs) ?_;grind [F0]
  rw[<-e];exact hf
 rcases hx with rfl|rfl<;>exact key
theorem ac2{r:R}:FC S as res r=fu false S.h as.length [r.v] res F0:=_root_.id rfl
end
attribute [go_sem ↓] aay aax Px Py aeP
attribute [go_sem] Xm
attribute [go_sem] VQ PL KI Wc Wb Zs Tv Nf Ng Yd RZ Ir Yc Is
attribute [go_sem] ac2 nq1 nq2 LW Yp Yy NQ
end Go.Gl
namespace Go.Gl
open Go Go.RowKit Go.ChangeShapes Go.Joins Go.WideShapes Go.Deep
section
variable {H:Type}{enc:TypeId×Value->H}{P:Program}{w:World}{base:Nat}{held:Bool}{G:Nat->Prop}
end
end Go.Gl
namespace Go.Gl
open Go
variable [Amb]
section
variable {P:Program}{sg:FuncId->List Bool}{h:Nat->Blk}{k:Nat}{ρ:Operand->AV}{C:R->Prop}{t t':TypeId}{x y:Operand}{A:AV->Prop}
variable {α:Type}{f:α->PV}{m:Bool}{L L':List (List α)}
def dk(f:α->PV)(m:Bool)(L:List (List α)):Blk:=.deep m (canon L.length) (L.map λl=>some (l.map f))
theorem pz{i:Nat}:(canon n)[i]? =if i<n then some (.row i)else none:=by
 grind [canon]
theorem kp:(canon n).length=n:=by simp[canon]
theorem Fx(hj:j<=n):(canon n).take j=canon j:=by
 apply zI7;grind [pz]
theorem Jg:canon n++(canon j).map (DC.up n)=canon (n+j):=by
 apply zI7;grind [kp,pz,DC.up]
theorem AC:(canon n).all DC.noSelf=true:=by
 rw[zC8];intro x hx;simp only[canon,zD0]at hx;obtain⟨_,_,rfl⟩:=hx;rfl
theorem Gh{i:Nat}(hi:i<L.length):(L.map λl=>some (l.map f))[i]? =some (some ((L.getD i []).map f)):=by
 grind
theorem adm{l:List α}:Blk.deep m [.row 0] [some (List.map f l)]=dk f m [l]:=_root_.id rfl
theorem age{l l2:List α}:Blk.deep m [.row 0,.row 1] [some (List.map f l),some (List.map f l2)]=dk f m [l,l2]:=_root_.id rfl
theorem adk:xx m [.dl (L.map (List.map f))]=dk f m L:=by
 simp_all [xx,dk,zB2,List.map_map]
theorem RS{rows:List (List PV)}:xy [.dl rows]=rows.length:=_root_.id rfl
theorem acj:Jq (dk f m L) id off C=(off<L.length/\C ⟨.inn id off 0 (L.getD off []).length,[],[id]⟩):=by
 simp only[Jq,dk,gt,zC9,pz,Int.natCast_nonneg,true_and,KD];grind [DC.av]
theorem ach:ZZ (dk f m L) id r off C=(r<L.length/\gt ((L.getD r []).map f) off (KX id C)):=by
 grind [ZZ,dk]
theorem abo{β:Type}{g:List α->PV}(hg:∀l,g l=.sl .ro (l.map f)):(canon L.length).map (DC.rd (L.map λl=>some (l.map f)))=L.map g:=by
 apply zI7;grind [pz,DC.rd]
theorem abv{L:List (List Int)}{F:PV->List Nat->Prop}:Bu (dk (PV.int .i64) m L) id off len F=(off+len<=L.length/\F (.sl (.lent true) ((L.drop off).take len |>.map (cK true))) [id]):=by
 simp only[Bu,dk,kp];rw[abo (β:=Int) (g:=cK true) (λ_=>rfl),<-List.map_drop,<-List.map_take];rfl
def Sn(b:Blk)(id r off len:Nat)(F:PV->List Nat->Prop):Prop:=
 match b with
 | .deep _ _ rs=>(match rs[r]? with
  |some (some c)=>off+len<=c.length/\F (.sl .ro ((c.drop off).take len)) [id]
  |_=>False)
 |_=>False
theorem abu{F:List PV->List Nat->Prop}:zM h (.inn id r off len::vs) F=Sn (h id) id r off len (UN h vs F):=by
 simp only[zM,Ej,mY,Sn];cases h id<;>rfl
theorem WI{K:List PV->List Nat->Prop}:gH h (.inn id r off len::vs) K=Sn (h id) id r off len (UP h vs K):=by
 simp only[gH,mY,Sn];cases h id<;>rfl
theorem acx{F:PV->List Nat->Prop}:Sn (dk f m L) id r off len F=(r<L.length/\off+len<=(L.getD r []).length/\F (.sl (.lent true) ((((L.getD r []).map f).drop off).take len)) [id]):=by
 simp only[Sn,dk];by_cases hr:r<L.length
 .rw[Gh hr];simp only[hr,true_and,zB2];rfl
 grind
theorem ab7{F:List PV->Prop}{FS:Nat->List PV->Prop}:muB (dk f m L) id len F FS=(len=L.length/\F [.dl (L.map (List.map f))]):=by
 simp only[muB,dk];apply propext;constructor
 .rintro(⟨rows,h1,h2,h3,h4⟩|⟨rows,h0,h1,h2,h3,h4⟩)
  rotate_left
  .have e:(L.map λl=>some (l.map f))[0]? =some none:=by grind
   grind
  have:rows=L.map (List.map f):=by
   have:=zB5 (List.map (λo:Option (List PV)=>o.getD [])) h2;simpa[Function.comp_def]using this.symm
  grind
 .rintro⟨h1,h2⟩
  exact .inl ⟨_,by simp,by simp,by simpa using h1,h2⟩
def BSD(n k:Nat)(C:R->Prop)(xs:List DC)(rs:List (Option (List PV)))(ws:List (Nat×Blk))(rd:List Nat):Prop:=xs.all DC.noSelf=true/\C ⟨.ref k 0 n,ws++[(k,.deep false xs rs)],rd⟩
theorem aaG{parts:Array (Nat×Operand)}:BJ P ρ h k (.buildSlice t n parts) C=((jK P t).isSome=true/\gU n parts=true/\n<=1000000/\kO h false k (parts.toList.map λp=>ρ p.2) [] (BSD n k C)):=_root_.id rfl
def Xi(s:Option (Nat×PV)):Bool:=match s with|some (_,.sl .fr [])=>true|_=>false
theorem Xh:vV P t=Xi (jK P t):=_root_.id rfl
theorem abK:Xi (some (n,.sl (.lent false) []))=true:=_root_.id rfl
theorem abL:Xi (some (n,.int kd z))=false:=_root_.id rfl
variable {zz:Bool}
theorem afK{parts:Array (Nat×Operand)}{s:Bool}:sG P true s zz (.buildSlice t n parts)=vV P t:=by simp[sG]
theorem afL{n:Bool}:sG P n true zz (.alloc t)=TR P t:=by simp[sG]
variable {n s:Bool}
theorem abY{i:Nat}{parts:Array (Nat×Operand)}:sG P false s zz (.buildSlice t i parts)=false:=by simp[sG]
theorem abX:sG P n false zz (.alloc t)=false:=by simp[sG]
theorem afI{b:BinOp}:sG P n s zz (.binOp b t x y t')=false:=_root_.id rfl
theorem afH{b:UnOp}:sG P n s zz (.unOp b t x)=false:=_root_.id rfl
theorem afG:sG P n s zz (.move x)=(zz&&It x):=_root_.id rfl
theorem aar{i:Nat}:It (.tmp i)=false:=_root_.id rfl
theorem z_i{i:Int}:It (.const (.int kd i))=false:=_root_.id rfl
theorem z_b:It (.const (.bool b))=false:=_root_.id rfl
theorem z_s{b:ByteArray}:It (.const (.string b))=false:=_root_.id rfl
theorem z_n:It (.const (.slice none 0 0))=true:=_root_.id rfl
theorem aaK:BJ P ρ h k (.assign x) C=wV k (ρ x) C:=_root_.id rfl
theorem ZG:wV k (.p (.sl .own [])) C=C ⟨.ref k 0 0,[(k,.deep false [] [])],[]⟩:=by simp[wV]
theorem afF:sG P n s zz (.assign x)=(zz&&It x):=_root_.id rfl
theorem afE{z:Operand}:sG P n s zz (.pick x y z)=false:=_root_.id rfl
theorem afD:sG P n s zz (.indexAddr t x y)=false:=_root_.id rfl
theorem afC:sG P n s zz (.index t x y)=false:=_root_.id rfl
theorem afB:sG P n s zz (.load t x)=false:=_root_.id rfl
theorem abV:sG P n s zz (.store t x y)=false:=_root_.id rfl
theorem abU{i:Nat}:sG P n s zz (.extract x i)=false:=_root_.id rfl
theorem abT{c:Call}:sG P n s zz (.call c)=false:=_root_.id rfl
theorem abS{lo hi mx:Option Operand}:sG P n s zz (.slice t x lo hi mx)=false:=_root_.id rfl
theorem abR{i:Nat}:sG P n s zz (.fieldAddr t x i)=false:=_root_.id rfl
theorem abQ{f:Fn}{a b:Array Operand}:sG P n s zz (.makeFunc f a b)=false:=_root_.id rfl
def MVK(F:List DC->List (Option (List PV))->List (Nat×Blk)->List Nat->Prop)(x:DC)(ws:List (Nat×Blk))(rd:List Nat)(xs:List DC)(rs:List (Option (List PV)))(ws':List (Nat×Blk))(rd':List Nat):Prop:=F (x::xs) rs (ws++ws') (rd++rd')
def MVN(mt:Bool)(h:Nat->Blk)(id:Nat)(vs:List AV)(F:List DC->List (Option (List PV))->List (Nat×Blk)->List Nat->Prop)(x:DC)(rs:List (Option (List PV)))(ws:List (Nat×Blk))(rd:List Nat):Prop:=kO (hwsH h ws) mt id vs rs (MVK F x ws rd)
def hu(h:Nat->Blk)(j:Nat)(b:Blk):Nat->Blk:=λi=>if i=j then b else h i
theorem acA{i:Nat}{b:Blk}:hu h j b i=if i=j then b else h i:=_root_.id rfl
theorem Ry{F:List DC->List (Option (List PV))->List (Nat×Blk)->List Nat->Prop}:kO h mt id [] rs F=F [] rs [] []:=_root_.id rfl
theorem Mq{F:List DC->List (Option (List PV))->List (Nat×Blk)->List Nat->Prop}:kO h mt id (v::vs) rs F=xh h mt id v rs (MVN mt h id vs F):=_root_.id rfl
theorem Xt{F:List DC->List (Option (List PV))->List (Nat×Blk)->List Nat->Prop}{x:DC}:MVN mt h id vs F x rs [] rd=kO h mt id vs rs (MVK F x [] rd):=_root_.id rfl
theorem ab1{F:List DC->List (Option (List PV))->List (Nat×Blk)->List Nat->Prop}{x:DC}{b:Blk}:MVN mt h id vs F x rs [(j,b)] rd=kO (hu h j b) mt id vs rs (MVK F x [(j,b)] rd):=_root_.id rfl
theorem ab2{F:List DC->List (Option (List PV))->List (Nat×Blk)->List Nat->Prop}{x:DC}{xs:List DC}{i:Nat}{b:Blk}:MVK F x [(i,b)] [i] xs rs ws' rd'=F (x::xs) rs ((i,b)::ws') (i::rd'):=_root_.id rfl
theorem ab3{F:List DC->List (Option (List PV))->List (Nat×Blk)->List Nat->Prop}{x:DC}{xs:List DC}:MVK F x [] [] xs rs ws' rd'=F (x::xs) rs ws' rd':=_root_.id rfl
def mvR(o:Option (Option (List PV)))(j r len:Nat)(cs':List DC)(rs' rs:List (Option (List PV)))(K:DC->List (Option (List PV))->List (Nat×Blk)->List Nat->Prop):Prop:=
 match o with
 |some (some c)=>len=c.length/\K (.row rs.length) (rs++[some c]) [(j,.deep false cs' (rs'.set r none))] [j]
 |_=>False
def mvJ(b:Blk)(j r len:Nat)(rs:List (Option (List PV)))(K:DC->List (Option (List PV))->List (Nat×Blk)->List Nat->Prop):Prop:=
 match b with
 | .deep false cs' rs'=>mvR rs'[r]? j r len cs' rs' rs K
 |_=>False
theorem Xw{K:DC->List (Option (List PV))->List (Nat×Blk)->List Nat->Prop}(hn:(j=id)=False):xh h mt id (.inn j r 0 len) rs K=mvJ (h j) j r len rs K:=by
 simp only[xh,mvJ,hn,zE3,true_and];cases hb:h j with
 |deep m cs' rs'=>cases m<;>rfl
 |_=>rfl
theorem Mr{K:DC->List (Option (List PV))->List (Nat×Blk)->List Nat->Prop}:mvJ (.deep false cs' rs') j r len rs K=mvR rs'[r]? j r len cs' rs' rs K:=_root_.id rfl
theorem Xx{K:DC->List (Option (List PV))->List (Nat×Blk)->List Nat->Prop}:mvR (some (some c)) j r len cs' rs' rs K=(len=c.length/\K (.row rs.length) (rs++[some c]) [(j,.deep false cs' (rs'.set r none))] [j]):=_root_.id rfl
def mvB(mt:Bool)(b:Blk)(id j off len:Nat)(rs:List (Option (List PV)))(K:DC->List (Option (List PV))->List (Nat×Blk)->List Nat->Prop):Prop:=
 match b with
 | .live m c=>(m=true->mt=true)/\j≠id/\off=0/\len=c.length/\K (.row rs.length) (rs++[some c]) [(j,.dead)] [j]
 | .froz m c=>j≠id/\off+len<=c.length/\K (.v (.sl (.lent m) ((c.drop off).take len))) rs [] [j]
 |_=>False
theorem Xu{K:DC->List (Option (List PV))->List (Nat×Blk)->List Nat->Prop}:xh h mt id (.ref j off len) rs K=mvB mt (h j) id j off len rs K:=by
 grind [xh,mvB]
theorem Ms{K:DC->List (Option (List PV))->List (Nat×Blk)->List Nat->Prop}:mvB mt (.live false c) id j off len rs K=(j≠id/\off=0/\len=c.length/\K (.row rs.length) (rs++[some c]) [(j,.dead)] [j]):=by simp[mvB]
theorem Rz{n:List PV}{K:DC->List (Option (List PV))->List (Nat×Blk)->List Nat->Prop}:xh h mt id (.p (.sl (.lent m) n)) rs K=K (.v (.sl (.lent m) n)) rs [] []:=by cases m<;>simp[xh,PV.cellOk,Fl.lent]
theorem Xv{K:DC->List (Option (List PV))->List (Nat×Blk)->List Nat->Prop}:xh h mt id (.p (.sl .own [])) rs K=K (.v (.sl .own [])) rs [] []:=by simp[xh,PV.cellOk]
theorem Zx{n:Nat}{xs:List DC}:BSD n k C xs rs ws rd=(xs.all DC.noSelf=true/\C ⟨.ref k 0 n,ws++[(k,.deep false xs rs)],rd⟩):=_root_.id rfl
theorem Xj:DC.noSelf (.row r)=true:=_root_.id rfl
theorem afu{v:PV}:DC.noSelf (.v v)=true:=_root_.id rfl
def Ps(b b':Blk)(id len j n k:Nat)(C:R->Prop):Prop:=
 match b,b' with
 | .deep m cs rs,.deep false cs' rs'=>n=cs'.length/\cs'.all DC.noSelf=true/\id≠j/\len=cs.length/\cs.all DC.noSelf=true/\len+n<=1099511627776/\
   C ⟨.ref k 0 (len+n),[(j,.dead),(id,.dead),(k,.deep m (cs++cs'.map (DC.up rs.length)) (rs++rs'))],[id,j]⟩
 |_,_=>False
theorem adY{s:AV}{n:Nat}:axB (dk f m L) h k s j off n C=iZ h k s (.ref j off n) C:=_root_.id rfl
theorem TI{s:AV}{n:Nat}:axB (.deep m cs rs) h k s j off n C=iZ h k s (.ref j off n) C:=_root_.id rfl
theorem ZK{n:Nat}:iZ h k (.ref id 0 len) (.ref j 0 n) C=Ps (h id) (h j) id len j n k C:=by
 simp only[iZ,Ps];grind
theorem ad9{n:Nat}:Ps (dk f m L) (dk f false L') id len j n k C=(n=L'.length/\id≠j/\len=L.length/\len+n<=1099511627776/\
  C ⟨.ref k 0 (len+n),[(j,.dead),(id,.dead),(k,dk f m (L++L'))],[id,j]⟩):=by
 grind [Ps,dk,kp,AC,Jg]
def dkz(f:α->PV)(m:Bool)(L:List (List α))(z:Nat):Blk:=.deep m (canon L.length++List.replicate z (.v (.sl .own []))) (L.map λl=>some (l.map f))
theorem Kl{z:Nat}{l:List α}(ho:off=L.length)(hz:0<z)(hl:len=l.length)(hi:id'≠id)(hc:C ⟨.p .any,[(id',.dead),(id,dkz f false (L++[l]) (z-1))],[id,id']⟩):
  ub (dkz f false L z) (.live false (l.map f)) id off id' 0 len C:=by
 obtain⟨z,rfl⟩:∃y,z=y+1:=⟨z-1,by omega⟩;subst ho;simp only[ub,dkz,zB2,true_and,zA3,kp,List.length_replicate];refine⟨λh=>h,hl,by omega,hi, ?_⟩;have e1:(canon L.length++List.replicate (z+1) (DC.v (.sl .own []))).set L.length (.row L.length)=canon (L.length+1)++List.replicate z (DC.v (.sl .own [])):=by
  simp_all [List.set_append_right,kp,List.replicate_succ,List.set_cons_zero,canon,zF7,zA7]
 grind [dkz]
theorem fH{f:FuncId}{os:List (Option (List PV))}{ms:List (Option (Nat×Option Nat))}
  (hf:CallT P false f (.mu false c::as) (some c'::os) res) [a:ImpA k res v ws] (hn:(ms.all Option.isNone)=true) (hid:id∉rd)
  (hc:C ⟨v,(id,gi (some r) (some (some c')) (h id))::ws,id::rd⟩):Pk P h k f C (.mu false c::as) rd (some (id,some r)::ms):=by
 refine oY hf hn hid ?_;rw[zH9,a.h.1,a.h.2,zF3];exact hc
def Pn(b:Blk)(tk:Bool)(k id off len:Nat)(rows:List (List PV))(F:List (Nat×Nat×Pl)->Prop):Prop:=
 match b with
 | .deep m cs rs=>off+len<=cs.length/\(m=true->tk=true)/\∃sel,rH rs ((cs.drop off).take len)=some (sel,rows)/\(sel.filterMap _root_.id).Nodup/\F [(k,id,.d off sel)]
 |_=>False
variable {F:List (Nat×Nat×Pl)->Prop}
theorem ac8{rows:List (List PV)}:fin tk h k (.ref id off len) (.dl rows) F=Pn (h id) tk k id off len rows F:=by
 grind [fin,mJ,Pn]
theorem sW{rs:List (Option (List PV))}:∀{l:List Nat} {cs:List (List PV)},(∀i,i<l.length->∃r,l[i]? =some r/\rs[r]? =some (cs[i]?))->cs.length=l.length->rH rs (l.map .row)=some (l.map some,cs)
 |[],cs,_,hl=>by
  have:cs=[]:=zA4 (by simpa using hl);subst this;rfl
 |r::l,cs,hh,hl=>by
  cases cs with
  |nil=>simp at hl
  |cons c cs=>
   obtain⟨r',e1,e2⟩:=hh 0 (by simp);simp only[zF3,zF2]at e1 e2;subst e1;have ih:=sW (l:=l) (cs:=cs) (λi hi=>by
    obtain⟨r',e1,e2⟩:=hh (i+1) (by simp;omega);exact⟨r',by simpa using e1,by simpa using e2⟩) (by simpa using hl)
   grind [rH]
theorem ac1{rows:List (List PV)}:Pn (dk f m L) tk k id 0 len rows F=(len<=L.length/\(m=true->tk=true)/\(L.take len).map (List.map f)=rows/\F [(k,id,.d 0 ((List.range len).map some))]):=by
 simp only[Pn,dk,kp,zI0,zI3];by_cases hl:len<=L.length
 .simp only[hl,true_and]
  have e:rH (L.map λl=>some (l.map f)) ((canon L.length).take len)=some ((List.range len).map some,(L.take len).map (List.map f)):=by
   rw[Fx hl];refine sW (λi hi=> ?_) (by simp;omega);simp only[List.length_range]at hi;refine⟨i,List.getElem?_range hi, ?_⟩;grind
  grind [List.nodup_range]
 grind
theorem af7{rows:List (List PV)}:Pn (.deep m [] []) tk k id 0 len rows F=(len=0/\(m=true->tk=true)/\rows=[]/\F [(k,id,.d 0 [])]):=by
 grind [Pn,rH]
instance dkO {k:Nat}{L:List (List α)}:ImpO k (.dl (L.map (List.map f))) (.ref k 0 L.length) [(k,dk f false L)]:=⟨by simp[imp,imp1],by simp[impW,impW1,dk,Function.comp_def]⟩
theorem Um{rows:List (List PV)}:noRo (.dl rows)=noRoLL rows:=_root_.id rfl
theorem afv{L:List (List α)}(hf:∀a,noRo (f a)=true):noRoLL (L.map (List.map f))=true:=by
 induction L with
 |nil=>rfl
 |cons l L ih=>grind [noRoLL,dv]
theorem Uo{L:List (List Int)}:noRoLL (L.map (List.map (PV.int kd)))=true:=afv λ_=>rfl
def DwnL(v:AV)(h:Nat->Blk)(n:Nat)(f:α->PV)(len:Nat)(L:List (List α)):Prop:=
 match v with
 | .ref id 0 len'=>len'=len/\h id=dk f false L/\id<n
 |_=>False
def hbD(b:Blk)(f:α->PV)(L:List (List α)):Prop:=b=dk f false L
theorem DwnL.out{h:Nat->Blk}{n:Nat}(ho:DwnL v h n f len L):∃id,v=.ref id 0 len/\h id=dk f false L/\id<n:=by
 unfold DwnL at ho;grind
theorem Tg{h:Nat->Blk}{n:Nat}:DwnL (.ref id 0 len') h n f len L=(len'=len/\hbD (h id) f L/\id<n):=_root_.id rfl
theorem Ys:hbD (dk f false L') f L=(dk f false L'=dk f false L):=_root_.id rfl
theorem Oc{z z':Nat}(h:L=L')(hz:z=z'):dkz f m L z=dkz f m L' z':=by rw[h,hz]
theorem Nq{xs:List DC}:hbD (.deep false xs rs) f L=(Blk.deep false xs rs=dk f false L):=_root_.id rfl
theorem adl(h:L=L'):dk f m L=dk f m L':=by rw[h]
end
theorem acY{α:Type}{f:α->PV}{L:List (List α)}:sI (dk f m L)=m:=_root_.id rfl
attribute [go_sem] acY adm age adk RS acj ach abv abu WI acx ab7
attribute [go_sem ↓] aaA aaz aaG aaK
attribute [go_sem] Xh abK abL afK afL abY abX afI afH afG afF afE afD afC afB abV abU abT abS abR abQ aar z_i z_b z_s z_n ZG
attribute [go_sem] Ry Mq Xt ab1 acA ab2 ab3 Xw Mr Xx Xu Ms Rz Xv Zx Xj afu
attribute [go_sem] adY TI ZK ad9 ac8 ac1 af7 Um Uo Tg Ys Nq
attribute [go_sem high] adm
attribute [go_sem] List.length_range
def Gn:PV->Option Value
 | .int k n=>some (.int k n)
 | .bool b=>some (.bool b)
 | .str s=>some (.string ⟨s.toArray⟩)
 |_=>none
theorem Fun.of_plain[NoQ]{P:Program}{v:Value}{fn:Func}(hf:P.funcs[f]? =some fn)(hb:fn.body.isSome=true)(hn:(fn.name== "runtime.NumGoroutine")=false)(hx:Gn x=some v)
  (h:∀(w:World) (F G:Nat->Prop) (vs:List Value),(∀B o,Amb.tb B=some o->w.heap[B]? =some o)->RepL w F G args vs->Calls P f ⟨vs⟩ w λe w'=>e=.returned v/\Go.RowKit.Below w.heap.size w w'):Fun P f args [x]:=by
 have dead:∀j,bH (args.map .pv) j=.dead:=by
  grind [bH]
 have hno:∀(ι:Nat->Loc) B,¬Held (bH (args.map .pv)) ι B:=by
  rintro ι B ⟨id,ho⟩;rw[dead]at ho;exact ho
 have hrep:∀(w:World) (F G:Nat->Prop) (ι:Nat->Loc) (l:List PV) (vs:List Value) (k:Nat),RepAL w F G ι (bA k (l.map .pv)) vs->RepL w F G l vs:=by
  intro w F G ι l
  induction l with
  |nil=>grind [bA,RepAL,RepL]
  |cons x l ih=>
   grind [bA,Arg.av,RepAL,RepA,RepL]
 have hr:noRoL [x]=true/\jA [x]=true/\impAll (args.map Arg.pv).length [x]=.p x/\impWs false (args.map Arg.pv).length [x]=[]/\∀w F G,RepP w F G x v:=by
  cases x with
  |int k n=>simp only[Gn,zF2]at hx;subst hx;exact⟨rfl,rfl,rfl,rfl,λ_ _ _=>by simp only[RepP]⟩
  |bool b=>simp only[Gn,zF2]at hx;subst hx;exact⟨rfl,rfl,rfl,rfl,λ_ _ _=>by simp only[RepP]⟩
  |str s=>simp only[Gn,zF2]at hx;subst hx;exact⟨rfl,rfl,rfl,rfl,λ_ _ _=>by simp only[RepP]⟩
  |_=>simp[Gn]at hx
 obtain⟨h1,h2,h3,h4,h5⟩:=hr;refine⟨⟨fn,hf,hb,hn⟩,h1,h2,rfl, ?_⟩;intro w G ι vs hamb hG ok hrp;have hpost:∀j,aZ false (args.map .pv) [] [x] j=.dead:=by
  intro j;unfold aZ;rw[h4];show gK (args.map .pv) [] j=.dead;grind [gK]
 have hno2:∀(ι:Nat->Loc) B,¬Held (aZ false (args.map .pv) [] [x]) ι B:=by
  rintro ι B ⟨id,ho⟩;rw[hpost]at ho;exact ho
 refine(h w _ G vs hamb.ok (hrep w _ G ι args vs 0 hrp)).mono ?_;rintro e w' ⟨rfl,hw⟩;refine⟨v,ι,rfl,λ_ _=>LocEq.refl _,⟨hw.os,hw.tape,hw.output,hw.size,λk hk _=>hw.block k hk,λq=>by grind [NoQ.no]⟩,⟨λid=>by rw[hpost];trivial,λid _ B ho=>by rw[hpost]at ho;exact ho.elim⟩, ?_⟩;rw[h3];exact h5 _ _ _
def Jn(x:PV):Value:=(Gn x).getD undef
theorem QP(h:(Gn x).isSome=true):RepP w F G x (Jn x)/\(Jn x).oneCell'=true:=by
 cases x with
 |int k n=>exact⟨by grind [Jn,Gn,RepP],rfl⟩
 |bool b=>exact⟨by grind [Jn,Gn,RepP],rfl⟩
 |str s=>exact⟨by grind [Jn,Gn,RepP],rfl⟩
 |_=>simp[Gn]at h
theorem Fun.of_row[NoQ]{P:Program}{fn:Func}(e:TypeId)(hf:P.funcs[f]? =some fn)(hb:fn.body.isSome=true)(hn:(fn.name== "runtime.NumGoroutine")=false)(hnr:noRoL xs=true)(hx:∀x∈xs,(Gn x).isSome=true)
  (h:∀(w:World) (F G:Nat->Prop) (vs:List Value),(∀B o,Amb.tb B=some o->w.heap[B]? =some o)->RepL w F G args vs->Calls P f ⟨vs⟩ w λex w'=>∃v,ex=.returned v/\w'.ownsRow w.heap.size e 1 v xs.length (xs.map Jn)/\Go.RowKit.Below w.heap.size w w'):Fun P f args [.sl .own xs]:=by
 have hrep:∀(w:World) (F G:Nat->Prop) (ι:Nat->Loc) (l:List PV) (vs:List Value) (k:Nat),RepAL w F G ι (bA k (l.map .pv)) vs->RepL w F G l vs:=by
  intro w F G ι l
  induction l with
  |nil=>grind [bA,RepAL,RepL]
  |cons x l ih=>
   grind [bA,Arg.av,RepAL,RepA,RepL]
 refine⟨⟨fn,hf,hb,hn⟩,by grind [noRoL,noRo],rfl,rfl, ?_⟩;intro w G ι vs hamb hG ok hrp;have hpost:∀j,aZ false (args.map .pv) [] [.sl .own xs] j=if j=(args.map Arg.pv).length then .live false xs else .dead:=by
  intro j;show(if j=(args.map Arg.pv).length then Blk.live false xs else gK (args.map .pv) [] j)=_;grind [gK]
 refine(h w _ G vs hamb.ok (hrep w _ G ι args vs 0 hrp)).mono ?_;rintro ex w' ⟨v,rfl,⟨hlen,ho⟩,hw⟩;have hio:impAll (args.map Arg.pv).length [.sl .own xs]=.ref (args.map Arg.pv).length 0 xs.length:=by simp[impAll,imp,imp1]
 have keep:Keep w w' (fQ (args.map .pv) ι):=⟨hw.os,hw.tape,hw.output,hw.size,λk hk _=>hw.block k hk,λq=>by grind [NoQ.no]⟩;have own1:∀(l:Loc) id B,owns (aZ false (args.map .pv) [] [.sl .own xs] id) (if id=(args.map Arg.pv).length then l else ι id) B->id=(args.map Arg.pv).length:=by
  intro l id B ho;rw[hpost]at ho;split at ho
  .assumption
  .exact ho.elim
 have fin:∀(l:Loc),(okB w' (Held (aZ false (args.map .pv) [] [.sl .own xs]) λj=>if j=(args.map Arg.pv).length then l else ι j) G (Org w.heap.size (fQ (args.map .pv) ι) G) (.live false xs) l)->
   RepA w' (Held (aZ false (args.map .pv) [] [.sl .own xs]) λj=>if j=(args.map Arg.pv).length then l else ι j) G (λj=>if j=(args.map Arg.pv).length then l else ι j) (.ref (args.map Arg.pv).length 0 xs.length) v->
   ∃v1 ι',Ending.returned v=.returned v1/\(∀j,j<(args.map Arg.pv).length->LocEq (ι j) (ι' j))/\Keep w w' (fQ (args.map .pv) ι)/\
    HeapOk w' w.heap.size (fQ (args.map .pv) ι) G (aZ false (args.map .pv) [] [.sl .own xs]) ι'/\RepA w' (Held (aZ false (args.map .pv) [] [.sl .own xs]) ι') G ι' (impAll (args.map Arg.pv).length [.sl .own xs]) v1:=by
  intro l h1 h2;refine⟨v,λj=>if j=(args.map Arg.pv).length then l else ι j,rfl,λj hj=>LocEq.of_eq (zA8 (by omega)),keep,⟨λid=> ?_,λid id' B ho ho'=> ?_⟩,by rw[hio];exact h2⟩
  .by_cases e:id=(args.map Arg.pv).length
   .grind
   .rw[hpost,zA8 e];trivial
  .rw[own1 l id B ho,own1 l id' B ho']
 rcases ho with⟨rfl,h0⟩|⟨g,cap,cur,rfl,hg,hcell,hle,hmax,hsz,htake⟩
 .refine fin ⟨0,0,0,0,bC⟩ ⟨by simp[h0],Nat.zero_le _,.inl rfl⟩ ?_
  grind [RepA]
 .have hsz':cur.size=cap:=by simpa using hsz
  refine fin ⟨g,0,cap,0,bC⟩ ⟨hle,hmax,.inr ⟨⟨cur,e,0,0,hcell,by simp;omega,.inl (zB1 _)⟩, ?_,.inl ⟨hg,hG g hg⟩⟩⟩ ?_
  .rw[aY]
   intro j x hj;have hlt:=(zB4.1 hj).1;have hmem:=zF9 hj;have h3:cur[j]? =some (Jn x):=by
    have h4:(cur.toList.take (xs.length*1))[j]? =(xs.map Jn)[j]? :=by rw[htake]
    grind
   grind [QP,cell?_eq0]
  grind [RepA]
theorem iR{v:Value}(h:RepP w F G (.str s) v):v=.string ⟨s.toArray⟩:=by grind [RepP]
theorem zG{k:IntKind}{n:Int}{v:Value}(h:RepP w F G (.int k n) v):v=.int k n:=by grind [RepP]
theorem LD{o:Fl}{l:List (List UInt8)}{v:Value}(h:RepP w F G (.sl o (l.map .str)) v)(hl:l≠[]):
  ∃B off cap,v=.slice (some ⟨B,off,none⟩) l.length cap/\l.length<=cap/\cap<=maxLen/\B<w.heap.size/\∀(j:Nat) (x:ByteArray),(l.map λs=>(⟨s.toArray⟩:ByteArray))[j]? =some x->w.cell? ⟨B,off+j,none⟩=some (.string x):=by
 simp only[RepP]at h;obtain⟨a,cap,rfl,h1,h2,_,h3⟩:=h;rcases h3 with h3|⟨B,off,rfl,_,_,hc⟩
 .grind
 .rw[aY]at hc
  have hcell:∀(j:Nat) (x:ByteArray),(l.map λs=>(⟨s.toArray⟩:ByteArray))[j]? =some x->w.cell? ⟨B,off+j,none⟩=some (.string x):=by
   intro j x hj;rw[zA5,zG2]at hj;obtain⟨s,hs,rfl⟩:=hj;obtain⟨u,hu,_,hr⟩:=hc j (.str s) (by grind);grind [iR]
  refine⟨B,off,cap,by simp,by simpa using h1,h2, ?_,hcell⟩;cases l with
  |nil=>exact absurd rfl hl
  |cons s l=>
   have:=hcell 0 ⟨s.toArray⟩ rfl;rw[cell?_eq0]at this;split at this
   .rename_i c _ _ hb;exact(zC7.1 hb).1
   .cases this
theorem LF{o:Fl}{v:Value}(h:RepP w F G (.sl o []) v):∃a cap,v=.slice a 0 cap:=by
 simp only[RepP]at h;obtain⟨a,cap,rfl,_⟩:=h;exact⟨a,cap,rfl⟩
section
variable {P:Program}{sg:FuncId->List Bool}{h:Nat->Blk}{k:Nat}{C:R->Prop}{S:St}
def PAF(x:PV)(rd:List Nat)(K:List Arg->List Nat->List (Option (Nat×Option Nat))->Prop)(as:List Arg)(rd':List Nat)(ms:List (Option (Nat×Option Nat))):Prop:=K (.pv x::as) (rd++rd') (none::ms)
def PAP(h:Nat->Blk)(fs:List Bool)(vs:List AV)(K:List Arg->List Nat->List (Option (Nat×Option Nat))->Prop)(x:PV)(rd:List Nat):Prop:=pass h fs vs (PAF x rd K)
theorem afs{fs:List Bool}{K:List Arg->List Nat->List (Option (Nat×Option Nat))->Prop}:pass h (false::fs) (.p x::vs) K=pass h fs vs (PAF x.cell [] K):=_root_.id rfl
theorem WT{fs:List Bool}{l:Nat}{K:List Arg->List Nat->List (Option (Nat×Option Nat))->Prop}:pass h (false::fs) (.ref id o l::vs) K=Bu (h id) id o l (PAP h fs vs K):=by
 simp only[pass,Ej,mY,Bu,List.tail_cons];cases h id<;>rfl
theorem WR{fs:List Bool}{K:List Arg->List Nat->List (Option (Nat×Option Nat))->Prop}:PAP h fs vs K x rd=pass h fs vs (PAF x rd K):=_root_.id rfl
theorem WS{K:List Arg->List Nat->List (Option (Nat×Option Nat))->Prop}{ms:List (Option (Nat×Option Nat))}:PAF x rd K as rd' ms=K (.pv x::as) (rd++rd') (none::ms):=_root_.id rfl
theorem dS{α:Type}{g:α->PV}{l:List α}{a:PV}
  (hf:CallT P true f [.pv a,.mu false c] [none,none] [.sl .own (l.map g)]) (hid:id∉rd)
  (hc:C ⟨.ref k 0 l.length,[(id,.dead),(k,.live (sI (h id)) (l.map g))],id::rd⟩):Pk P h k f C [.pv a,.mu false c] rd [none,some (id,none)]:=by
 refine⟨⟨by simp[db],by simpa[db]using hid⟩,true,_,_,hf,sI (h id),λe1 _ i hi=>(by simp[db]at hi;subst hi;exact e1), ?_⟩;have e1:impAll k [.sl .own (l.map g)]=.ref k 0 l.length:=by simp[impAll,imp,imp1]
 have e2:gi none (some none) (h id)=.dead:=rW;rw[e1];simpa[fo,db,impWs,impW,impW1,e2]using hc
theorem dR{α:Type}{g:α->PV}{l:List α}{a b:PV}
  (hf:CallT P true f [.pv a,.pv b,.mu false c] [none,none,none] [.sl .own (l.map g)]) (hid:id∉rd)
  (hc:C ⟨.ref k 0 l.length,[(id,.dead),(k,.live (sI (h id)) (l.map g))],id::rd⟩):Pk P h k f C [.pv a,.pv b,.mu false c] rd [none,none,some (id,none)]:=by
 refine⟨⟨by simp[db],by simpa[db]using hid⟩,true,_,_,hf,sI (h id),λe1 _ i hi=>(by simp[db]at hi;subst hi;exact e1), ?_⟩;have e1:impAll k [.sl .own (l.map g)]=.ref k 0 l.length:=by simp[impAll,imp,imp1]
 have e2:gi none (some none) (h id)=.dead:=rW;rw[e1];simpa[fo,db,impWs,impW,impW1,e2]using hc
theorem dQ{α:Type}{g:α->PV}{l:List α}{a b b':PV}
  (hf:CallT P true f [.pv a,.pv b,.pv b',.mu false c] [none,none,none,none] [.sl .own (l.map g)]) (hid:id∉rd)
  (hc:C ⟨.ref k 0 l.length,[(id,.dead),(k,.live (sI (h id)) (l.map g))],id::rd⟩):Pk P h k f C [.pv a,.pv b,.pv b',.mu false c] rd [none,none,none,some (id,none)]:=by
 refine⟨⟨by simp[db],by simpa[db]using hid⟩,true,_,_,hf,sI (h id),λe1 _ i hi=>(by simp[db]at hi;subst hi;exact e1), ?_⟩;have e1:impAll k [.sl .own (l.map g)]=.ref k 0 l.length:=by simp[impAll,imp,imp1]
 have e2:gi none (some none) (h id)=.dead:=rW;rw[e1];simpa[fo,db,impWs,impW,impW1,e2]using hc
theorem AX{α β:Type}{g:α->PV}{g':β->PV}{l:List α}{l':List β}{d:List PV}{a:PV}{n:Int}{i:Nat}
  (hf:CallT P true f [.pv a,.mu false c,.mu false d] [none,none,none] [.int .i64 n,.sl .own (l.map g),.sl .own (l'.map g')]) (hi:i∉j::rd) (hj:j∉rd)
  (hc:C ⟨.tup [.p (.int .i64 n),.ref (k+16) 0 l.length,.ref (k+16+16) 0 l'.length],[(i,.dead),(j,.dead),(k+16,.live (sI (h i)||sI (h j)) (l.map g)),(k+16+16,.live (sI (h i)||sI (h j)) (l'.map g'))],i::j::rd⟩):Pk P h k f C [.pv a,.mu false c,.mu false d] rd [none,some (i,none),some (j,none)]:=by
 simp only[zD7,not_or]at hi;refine⟨⟨by simp[db,hi.1],by simp[db,hi.2,hj]⟩,true,_,_,hf,sI (h i)||sI (h j),λe1 _ x hx=>(by simp only[Bool.or_eq_false_iff]at e1;simp[db]at hx;rcases hx with rfl|rfl;exact e1.1;exact e1.2), ?_⟩;have e2:∀id,gi none (some none) (h id)=.dead:=λid=>rW;simpa[fo,db,impAll,imps,imp,imp1,impWs,impW,impW1,e2]using hc
def PNL(K:List Arg->List Nat->List (Option (Nat×Option Nat))->Prop)(as:List Arg)(rd:List Nat)(ms:List (Option (Nat×Option Nat))):Prop:=K (.pv (.sl .own [])::as) rd (none::ms)
theorem WK{sg:List Bool}{K:List Arg->List Nat->List (Option (Nat×Option Nat))->Prop}:pass h (true::sg) (.p (.sl .own [])::vs) K=pass h sg vs (PNL K):=by simp only[pass];rfl
theorem WL{K:List Arg->List Nat->List (Option (Nat×Option Nat))->Prop}:pass h [] vs (PNL K)=zM h vs (PQ (PNL K)):=rQ
theorem abA{K:List Arg->List Nat->List (Option (Nat×Option Nat))->Prop}{ms:List (Option (Nat×Option Nat))}:PNL K as rd ms=K (.pv (.sl .own [])::as) rd (none::ms):=_root_.id rfl
theorem vd{a b:PV}(hf:Fun P f [a,b] res)[i:ImpA k res v ws](hc:C ⟨v,ws,rd⟩):Pk P h k f C [.pv a,.pv b] rd [none,none]:=bv (xs:=[a,b]) hf hc
def SRk(P:Program)(f g:FuncId)(F:(List (List Int)->List (List Int))->Prop):Prop:=∃srt,ZO P f g srt/\F srt
theorem oX{P:Program}{srt:List (List Int)->List (List Int)}{F:(List (List Int)->List (List Int))->Prop}(h:ZO P f g srt)(k:F srt):SRk P f g F:=⟨srt,h,k⟩
theorem dO{α:Type}{g:α->PV}{L:List (List α)}{os:List (Option (List PV))}{ms:List (Option (Nat×Option Nat))}
  (hf:CallT P true f (.mu false c::as) (none::os) [.dl (L.map (List.map g))]) (hn:(ms.all Option.isNone)=true) (hid:id∉rd)
  (hc:C ⟨.ref k 0 L.length,[(id,gi (some r) (some none) (h id)),(k,dk g (sI (h id)) L)],id::rd⟩):Pk P h k f C (.mu false c::as) rd (some (id,some r)::ms):=by
 refine oY hf hn hid ?_;simp only[zF3];have e1:impAll k [.dl (L.map (List.map g))]=.ref k 0 L.length:=by simp[impAll,imp,imp1]
 have e2:impWs (true&&sI (h id)) k [.dl (L.map (List.map g))]=[(k,dk g (sI (h id)) L)]:=by simp[impWs,impW,impW1,dk]
 rw[e1,e2];exact hc
theorem dP{α:Type}{g:α->PV}{L:List (List α)}{os:List (Option (List PV))}{ms:List (Option (Nat×Option Nat))}
  (hf:CallT P true f (.mu false c::as) (none::os) [.dl (L.map (List.map g))]) (hn:(ms.all Option.isNone)=true) (hid:id∉rd)
  (hc:C ⟨.ref k 0 L.length,[(id,.dead),(k,dk g (sI (h id)) L)],id::rd⟩):Pk P h k f C (.mu false c::as) rd (some (id,none)::ms):=by
 refine oY hf hn hid ?_;simp only[zF3];have e1:impAll k [.dl (L.map (List.map g))]=.ref k 0 L.length:=by simp[impAll,imp,imp1]
 have e2:impWs (true&&sI (h id)) k [.dl (L.map (List.map g))]=[(k,dk g (sI (h id)) L)]:=by simp[impWs,impW,impW1,dk]
 rw[e1,e2];exact hc
theorem VE{ex:Ex}{os:List (Option (List PV))}(hx:ex=.ret\/ex=.normal)
  (ho:(os.all Option.isNone)=true) (hf:fu tk S.h as.length (ts.map S.e) xs F0):xL tk as os ts xs ex S:=by
 have key:yO tk S as os (ts.map S.e) xs:=by
  unfold yO;refine Eq.mp (zB5 (fu tk S.h as.length (ts.map S.e) xs) ?_) hf;funext L;simp only[F0];apply propext;constructor
  .intro h1
   refine⟨h1,λj hj=> ?_⟩;split
   .rename_i c0 _ hc0
    have:=zC8.1 ho _ (zF9 hc0);simp at this
   .trivial
  .exact λh=>h.1
 rcases hx with rfl|rfl<;>exact key
def InnL(v w:AV)(r len:Nat):Prop:=
 match v,w with
 | .inn id r' 0 len',.ref id' _ _=>id=id'/\r'=r/\len'=len
 |_,_=>False
theorem InnL.out{w:AV}{i l:Nat}(hv:InnL v w r len)(e:w=.ref i o l):v=.inn i r 0 len:=by
 subst e;unfold InnL at hv;split at hv
 .rename_i e;cases e;obtain⟨rfl,rfl,rfl⟩:=hv;rfl
 .exact hv.elim
theorem Yk{r' l:Nat}:InnL (.inn id r' 0 len') (.ref id' o l) r len=(id=id'/\r'=r/\len'=len):=_root_.id rfl
variable {α:Type}{f:α->PV}{m:Bool}{L:List (List α)}{cs:List Nat}
def stQ(b:Blk)(id off j r len:Nat)(C:R->Prop):Prop:=
 match b with
 | .deep m cs rs=>j=id/\off<cs.length/\(match rs[r]? with
  |some (some c)=>len=c.length/\C ⟨.p .any,[(id,.deep m (cs.set off (.row r)) rs)],[id]⟩
  |_=>False)
 |_=>False
theorem Km(hq:stQ (h id) id off j r len C):DR (some (1,false)) h (.ptr id off) (.inn j r 0 len) C:=by
 unfold stQ at hq;simp only[DR];split at hq
 .rename_i m cs rs hb
  obtain⟨rfl,ho,hq⟩:=hq;rw[hb];simp only[i7,kO,xh,zH3,true_and];split at hq
  .rename_i c hr
   rw[hr];obtain⟨h1,h2⟩:=hq;refine⟨h1,(by first|rfl|omega|(simp;done)|(simp;omega)),(by first|rfl|omega|(simp;done)|(simp;omega)), ?_⟩;have e:=rG (v:=DC.row r) ho;simpa only[zE1,zC0,e]using h2
  .exact hq.elim
 .exact hq.elim
end
def FT(_:List (Nat×Nat×Pl)):Prop:=True
theorem acS{L:List (Nat×Nat×Pl)}:FT L=True:=_root_.id rfl
attribute [go_sem] WK WL abA acS afs WT WR WS Yk
class Stp(A:Prop)(B:outParam Prop):Prop where
 h:B->A
theorem ZT{A B:Prop}[s:Stp A B](h:B):A:=s.h h
class FinX(ex:Ex):Prop where
 h:ex=.ret\/ex=.normal
instance:FinX .ret:=⟨.inl rfl⟩
instance:FinX .normal:=⟨.inr rfl⟩
section
variable {P:Program}{sg:FuncId->List Bool}{Q:Ex->St->Prop}{S:St}
instance {a b:Code}:Stp (ka P sg (.seq a b) Q S) (ka P sg a (Bp P sg b Q) S):=⟨aaN⟩
instance:Stp (ka P sg .skip Q S) (Q .normal S):=⟨VA⟩
instance {id:Nat}:Stp (ka P sg (.exit id) Q S) (Q (.exit id) S):=⟨VI⟩
instance:Stp (ka P sg .ret Q S) (Q .ret S):=⟨aaO⟩
instance {id:Nat}{c:Code}:Stp (ka P sg (.block id c) Q S) (ka P sg c (wR id Q) S):=⟨PH⟩
instance {b:Code}:Stp (Bp P sg b Q .normal S) (ka P sg b Q S):=⟨QJ⟩
instance {b:Code}{id:Nat}:Stp (Bp P sg b Q (.exit id) S) (Q (.exit id) S):=⟨QK⟩
instance {b:Code}:Stp (Bp P sg b Q .ret S) (Q .ret S):=⟨QI⟩
instance {id:Nat}:Stp (wR id Q .normal S) (Q .normal S):=⟨QN⟩
instance {id:Nat}:Stp (wR id Q .ret S) (Q .ret S):=⟨QM⟩
instance {id:Nat}:Stp (wR id Q (.exit id) S) (Q .normal S):=⟨QL⟩
instance {I:Nat->St->Prop}{n id:Nat}:Stp (DI I n Q (.exit id) S) (Q (.exit id) S):=⟨WA⟩
instance {I:Nat->St->Prop}{n:Nat}:Stp (DI I n Q .ret S) (Q .ret S):=⟨Wz⟩
instance {i o l l':Nat}:Stp (AV.ref i o l=AV.ref i o l') (l=l'):=⟨Wu⟩
instance {m:Bool}{α:Type}{f:α->PV}{l l':List α}:Stp (Blk.live m (l.map f)=Blk.live m (l'.map f)) (l=l'):=⟨RQ⟩
instance {α:Type}{f:α->PV}{l l':List α}:Stp (l.map f=l'.map f) (l=l'):=⟨Uz⟩
instance {α:Type}{f:α->PV}{m:Bool}{L L':List (List α)}:Stp (dk f m L=dk f m L') (L=L'):=⟨adl⟩
theorem DN{ex:Ex}[x:FinX ex](hf:fu false S.h as.length (ts.map S.e) xs F0):FE as ts xs ex S:=aaP x.h hf
theorem yX{ex:Ex}[x:FinX ex](hf:gq P ty S.h (S.e t) (FC S as xs)):TW P as [.cell t ty] xs ex S:=VH x.h hf
theorem yV{ex:Ex}{os:List (Option (List PV))}[x:FinX ex](ho:(os.all Option.isNone)=true)(hf:fu tk S.h as.length (ts.map S.e) xs F0):xL tk as os ts xs ex S:=VE x.h ho hf
theorem yW{ex:Ex}{os:List (Option (List PV))}[x:FinX ex](ho:(os.all Option.isNone)=true)(hl:S.h 0=xx true c')(hf:fu tk S.h (as.length+1) (ts.map S.e) xs F1):xL tk (.mu p c::as) (some c'::os) ts xs ex S:=VF x.h ho hl hf
theorem PG{ex:Ex}{os:List (Option (List PV))}[x:FinX ex](ho:(os.all Option.isNone)=true)(hf:fu true S.h (as.length+1) (ts.map S.e) xs F0):xL true (.mu p c::as) os ts xs ex S:=VD x.h ho hf
end
theorem hcs:(∀(p:Prop) [Decidable p],(decide p=true)=p)/\(∀(p:Prop) [Decidable p],(decide p=false)=¬p)/\(∀a b:Bool,((a&&b)=true)=(a=true/\b=true))/\(∀a b:Bool,((a||b)=true)=(a=true\/b=true))/\
  (∀a b:Bool,((a&&b)=false)=(a=false\/b=false))/\(∀a b:Bool,((a||b)=false)=(a=false/\b=false))/\(∀a:Bool,((!a)=true)=(a=false))/\(∀a:Bool,((!a)=false)=(a=true))/\(∀a b:Int,(¬a<b)=(b<=a))/\(∀a b:Int,(¬a<=b)=(b<a)):=
 ⟨λp _=>by simp,λp _=>by simp,λa b=>by simp,λa b=>by simp,λa b=>by cases a<;>simp,λa b=>by simp,λa=>by simp,λa=>by simp,λa b=>by simp,λa b=>by simp⟩
theorem EI:(∀(α:Type) (a b:List α),(a++b).length=a.length+b.length)/\(∀(α:Type) (x:α) (l:List α),(x::l).length=l.length+1)/\(∀α:Type,([]:List α).length=0)/\(∀(α:Type) (l:List α) (i:Nat) (x:α),(l.set i x).length=l.length)/\
  (∀(α:Type) (l:List α) (i:Nat),(l.take i).length=min i l.length)/\(∀(α:Type) (l:List α) (i:Nat),(l.drop i).length=l.length-i)/\(∀(α β:Type) (f:α->β) (l:List α),(l.map f).length=l.length)/\(∀(α:Type) (n:Nat) (x:α),(List.replicate n x).length=n):=
 ⟨λ_ _ _=>by simp,λ_ _ _=>by simp,λ_=>by simp,λ_ _ _ _=>by simp,λ_ _ _=>by simp,λ_ _ _=>by simp,λ_ _ _ _=>by simp,λ_ _ _=>by simp⟩
theorem nrs:noRoLL []=true/\noRoL []=true/\(∀x xs,noRoL (x::xs)=(noRo x&&noRoL xs)):=⟨rfl,rfl,λ_ _=>rfl⟩
attribute [go_sem] nrs Option.all_some Option.all_none Bool.and_self Rs Mm Ro Rp Ml Rt uL Rl Rm Um Uo
section
variable {P:Program}{sg:FuncId->List Bool}{h:Nat->Blk}{k:Nat}{ρ:Operand->AV}{C:R->Prop}{t t':TypeId}{x y:Operand}
variable {m:Bool}{cs:List DC}{rs:List (Option (List PV))}
def AG:List (Nat×Operand)->Option (List Nat)->Bool:=λps q=>decide (ps.length<(q.getD []).length)
theorem abZ{n zz:Bool}{parts:Array (Nat×Operand)}:sG P n true zz (.build t parts)=AG parts.toList (fJ P t):=by simp[sG,AG]
theorem ago{p:Nat×Operand}{ps:List (Nat×Operand)}{y:Nat}{ys:List Nat}:AG (p::ps) (some (y::ys))=AG ps (some ys):=by simp[AG]
theorem agp{y:Nat}{ys:List Nat}:AG [] (some (y::ys))=true:=by simp[AG]
theorem agn{ps:List (Nat×Operand)}:AG ps (some [])=false:=by simp[AG]
def agG(s:Option (Nat×Bool)):Bool:=match s with|some (_,true)=>true|_=>false
theorem ad5:TR P t=agG (pU P t):=_root_.id rfl
theorem agA:agG (some (n,true))=true:=_root_.id rfl
theorem aaL:BJ P ρ h k (.alloc t) C=ri P t k C:=_root_.id rfl
theorem aaI{parts:Array (Nat×Operand)}:BJ P ρ h k (.build t parts) C=rg P t (parts.toList.map λp=>(p.1,ρ p.2)) k C:=_root_.id rfl
def alD(s:Option (List PV))(k:Nat)(C:R->Prop):Prop:=
 match s with
 |some xs=>xs≠[]/\xs.length<=1000000/\xs.all oB=true/\C ⟨.ptr k 0,[(k,.deep false (xs.map λ_=>.v (.sl .own [])) [])],[]⟩
 |none=>False
theorem aej:ri P t k C=alD (ip P t) k C:=_root_.id rfl
theorem agC:alD (some [.sl (.lent false) [],.sl (.lent false) []]) k C=C ⟨.ptr k 0,[(k,.deep false [.v (.sl .own []),.v (.sl .own [])] [])],[]⟩:=by simp[alD,oB,Fl.lent]
def Mo(p:Option (List Nat))(z:Option (List PV)):Option (List Nat×Nat):=
 match p,z with
 |some places,some zs=>if zs.all oB=true then some (places,zs.length)else none
 |_,_=>none
def blG(s:Option (List Nat×Nat))(parts:List (Nat×AV))(k:Nat)(K:R->Prop):Prop:=
 match s with
 |some (places,n)=>n<=64/\jJ places ((List.range n).map λi=>.ref (k+i) 0 0) parts λcs=>K ⟨.agg cs,nK k n,[]⟩
 |none=>False
theorem agq{parts:List (Nat×AV)}:rg P t parts k C=blG (Mo (fJ P t) (ip P t)) parts k C:=_root_.id rfl
theorem afA:Mo (some pl) (some [.sl (.lent false) [],.sl (.lent false) []])=some (pl,2):=by simp[Mo,oB,Fl.lent]
def FN(ws:List (Nat×Blk))(C:R->Prop)(cs:List AV):Prop:=C ⟨.agg cs,ws,[]⟩
theorem acW{cs:List AV}:FN ws C cs=C ⟨.agg cs,ws,[]⟩:=_root_.id rfl
theorem ags{parts:List (Nat×AV)}:blG (some (pl,2)) parts k C=jJ pl [.ref k 0 0,.ref (k+1) 0 0] parts (FN [(k,.live false []),(k+1,.live false [])] C):=by
 simp[blG,nK,zF7,FN];rfl
theorem MT:ldA (.deep m cs rs) id off n C=(off+n<=cs.length/\C ⟨.agg (((cs.drop off).take n).map (DC.av id rs)),[],[id]⟩):=_root_.id rfl
theorem KR:stA (.deep m cs rs) h n id off v C=kO h m id (i7 v) rs (STD m n id off cs C):=_root_.id rfl
theorem VU{xs:List DC}:STD m n id off cs C xs rs ws rd=(xs.length=n/\off+n<=cs.length/\C ⟨.p .any,ws++[(id,.deep m (cs.take off++xs++cs.drop (off+n)) rs)],id::rd⟩):=_root_.id rfl
theorem TS:i7 (.agg vs)=vs:=_root_.id rfl
def avO(id r:Nat):Option (Option (List PV))->AV
 |some (some c)=>.inn id r 0 c.length
 |_=>.p .any
theorem agu{v:PV}:DC.av id rs (.v v)=.p v:=_root_.id rfl
theorem agv:DC.av id rs (.row r)=avO id r rs[r]? :=by
 simp only[DC.av,avO];cases rs[r]? with
 |none=>rfl
 |some o=>cases o<;>rfl
theorem ZE:avO id r (some (some c))=.inn id r 0 c.length:=_root_.id rfl
theorem XQ:Jq (.deep m cs rs) id off C=gt cs off (λx=>C ⟨x.av id rs,[],[id]⟩):=_root_.id rfl
def apO(o:Option (Option (List PV)))(id r len k:Nat)(m:Bool)(cs:List DC)(rs:List (Option (List PV)))(C:R->Prop)(ys:List PV)(rd:List Nat):Prop:=
 match o with
 |some (some c)=>len=c.length/\id∉rd/\len+ys.length<=1099511627776/\C ⟨.ref k 0 (len+ys.length),[(id,.deep m cs (rs.set r none)),(k,.live m (c++ys))],id::rd⟩
 |_=>False
theorem OO:apI (.deep m cs rs) id r len k C ys rd=apO rs[r]? id r len k m cs rs C ys rd:=_root_.id rfl
theorem ZI:apO (some (some c)) id r len k m cs rs C ys rd=(len=c.length/\id∉rd/\len+ys.length<=1099511627776/\C ⟨.ref k 0 (len+ys.length),[(id,.deep m cs (rs.set r none)),(k,.live m (c++ys))],id::rd⟩):=_root_.id rfl
variable {α:Type}{l:List α}{a b:α}{i j:Nat}
theorem acN:(l++[a])[l.length]? =some a:=by simp
theorem acM(hi:i<l.length):(l++[a])[i]? =l[i]? :=zD8 hi
theorem acL(hn:(i=j)=False):(l.set i a)[j]? =l[j]? :=by rw[List.getElem?_set_ne (λe=>by rw[hn]at e;exact e)]
theorem Yv(hi:i<l.length):(l.set j b++[a])[i]? =(l.set j b)[i]? :=zD8 (by simpa using hi)
variable {F:List (Nat×Nat×Pl)->Prop}
def fiI(o:Option (Option (List PV)))(k id r len:Nat)(ys:List PV)(F:List (Nat×Nat×Pl)->Prop):Prop:=
 match o with
 |some (some c)=>len<=c.length/\c.take len=ys/\F [(k,id,.n (some r))]
 |_=>False
def fiJ(b:Blk)(k id r len:Nat)(ys:List PV)(F:List (Nat×Nat×Pl)->Prop):Prop:=
 match b with
 | .deep false _ rs=>fiI rs[r]? k id r len ys F
 |_=>False
theorem Za:mJ false h k (.inn id r 0 len) (.sl (.lent false) xs) F=fiJ (h id) k id r len xs F:=by
 show mJ false h k (.inn id r 0 len) (.sl .fr xs) F=_;simp only[mJ,fiJ];cases h id with
 |deep m cs rs=>
  cases m
  .simp only[fiI];cases rs[r]? with
   |none=>rfl
   |some o=>cases o<;>simp
  .rfl
 |_=>rfl
theorem NP:fiJ (.deep false cs rs) k id r len xs F=fiI rs[r]? k id r len xs F:=_root_.id rfl
theorem YG:fiI (some (some c)) k id r len xs F=(len<=c.length/\c.take len=xs/\F [(k,id,.n (some r))]):=_root_.id rfl
def FR(S:St)(as:List Arg)(res:List PV)(vs:List AV):Prop:=fu false S.h as.length vs res F0
theorem yU{rs:List ResultVar}{ex:Ex}{S:St}[x:FinX ex](hf:mX P S rs (FR S as xs)):TW P as rs xs ex S:=by
 have key:mX P S rs λvs=>yO false S as [] vs xs:=by
  have e:FR S as xs=λvs=>yO false S as [] vs xs:=by
   funext vs;unfold FR yO;refine zB5 (fu false S.h as.length vs xs) ?_;funext L;simp only[F0];apply propext;constructor
   .intro h;refine⟨h,λj _=> ?_⟩
    split
    .rename_i h;simp at h
    .trivial
   .intro h;exact h.1
  rw[<-e];exact hf
 rcases x.h with rfl|rfl<;>exact key
theorem acV{S:St}:FR S as res vs=fu false S.h as.length vs res F0:=_root_.id rfl
def RWK(K:List AV->Prop)(v:AV)(vs:List AV):Prop:=K (v::vs)
def RWC(P:Program)(S:St)(rs:List ResultVar)(K:List AV->Prop)(r:R):Prop:=mX P S rs (RWK K r.v)
theorem Wn{S:St}{K:List AV->Prop}:mX P S [] K=K []:=_root_.id rfl
theorem Wm{S:St}{t:Nat}{rs:List ResultVar}{K:List AV->Prop}:mX P S (.tmp t::rs) K=mX P S rs (RWK K (S.e t)):=_root_.id rfl
theorem Qy{S:St}{t:Nat}{rs:List ResultVar}{K:List AV->Prop}:mX P S (.cell t ty::rs) K=gq P ty S.h (S.e t) (RWC P S rs K):=_root_.id rfl
theorem Wk{K:List AV->Prop}:RWK K v vs=K (v::vs):=_root_.id rfl
theorem Wl{S:St}{rs:List ResultVar}{K:List AV->Prop}{r:R}:RWC P S rs K r=mX P S rs (RWK K r.v):=_root_.id rfl
def D2B(b:Blk)(p q:List PV):Prop:=∃r0 r1 rs,b=.deep false [.row r0,.row r1] rs/\r0≠r1/\rs[r0]? =some (some p)/\rs[r1]? =some (some q)
def Dst2(v:AV)(h:Nat->Blk)(n:Nat)(p q:List PV):Prop:=
 match v with
 | .ptr id 0=>D2B (h id) p q/\id<n
 |_=>False
theorem Dst2.out{p:List PV}(hd:Dst2 v h n p q):∃id r0 r1 rs,v=.ptr id 0/\h id=.deep false [.row r0,.row r1] rs/\id<n/\(r0=r1)=False/\(r1=r0)=False/\rs[r0]? =some (some p)/\rs[r1]? =some (some q)/\r0<rs.length/\r1<rs.length/\
  (r0=rs.length)=False/\(r1=rs.length)=False/\(rs.length=r0)=False/\(rs.length=r1)=False:=by
 unfold Dst2 at hd;split at hd
 .obtain⟨⟨r0,r1,rs,h1,h2,h3,h4⟩,h5⟩:=hd
  have l0:=(zB4.1 h3).1;have l1:=(zB4.1 h4).1;exact⟨_,r0,r1,rs,rfl,h1,h5,zC6 h2,zC6 (Ne.symm h2),h3,h4,l0,l1,zC6 (by omega),zC6 (by omega),zC6 (by omega),zC6 (by omega)⟩
 .exact hd.elim
theorem Zm{p:List PV}:Dst2 (.ptr id 0) h n p q=(D2B (h id) p q/\id<n):=_root_.id rfl
theorem adr{p:List PV}{r0 r1:Nat}:D2B (.deep false [.row r0,.row r1] rs) p q=(r0≠r1/\rs[r0]? =some (some p)/\rs[r1]? =some (some q)):=by
 apply propext;constructor
 .rintro⟨a,b,rs',e,h⟩;cases e;exact h
 .exact λh=>⟨r0,r1,rs,rfl,h⟩
def nk:AV->AV
 | .ptr id _=>.ref id 0 0
 | .mp id=>.ref id 0 0
 | .prs id _=>.ref id 0 0
 |v=>v
theorem TL:nk (.ptr id o)=.ref id 0 0:=_root_.id rfl
theorem cc(e:v=.ptr id o):nk v=.ref id 0 0:=by subst e;rfl
def PtrL(v:AV)(h:Nat->Blk)(n:Nat)(b:Blk):Prop:=
 match v with
 | .ptr id 0=>h id=b/\id<n
 |_=>False
theorem PtrL.out{b:Blk}(hd:PtrL v h n b):∃id,v=.ptr id 0/\h id=b/\id<n:=by
 unfold PtrL at hd;split at hd
 .exact⟨_,rfl,hd⟩
 .exact hd.elim
theorem WM{b:Blk}:PtrL (.ptr id 0) h n b=(h id=b/\id<n):=_root_.id rfl
def PrsL(v:AV)(h:Nat->Blk)(n len:Nat)(xs:List PV):Prop:=
 match v with
 | .prs id l=>l=len/\h id=.live false xs/\id<n
 |_=>False
theorem PrsL.out(hd:PrsL v h n len xs):∃id,v=.prs id len/\h id=.live false xs/\id<n:=by
 unfold PrsL at hd;split at hd
 .obtain⟨rfl,h1,h2⟩:=hd;exact⟨_,rfl,h1,h2⟩
 .exact hd.elim
theorem WN{l:Nat}:PrsL (.prs id l) h n len xs=(l=len/\h id=.live false xs/\id<n):=_root_.id rfl
theorem TM:nk (.prs id o)=.ref id 0 0:=_root_.id rfl
theorem AK(e:v=.prs id o):nk v=.ref id 0 0:=by subst e;rfl
end
attribute [go_sem ↓] aaL aaI
attribute [go_sem] WN TM
attribute [go_sem] ad5 agA abZ ago agp agn aej agC agq afA ags acW MT KR VU TS agu agv ZE XQ OO ZI acN acM acL Yv Za NP YG Zm adr TL WM acV Wn Wm Qy Wk Wl
section
variable {P:Program}{sg:FuncId->List Bool}{h:Nat->Blk}{k:Nat}{ρ:Operand->AV}{C:R->Prop}{t:TypeId}{x y z:Operand}
variable {m:Bool}{kt:TypeId}{es:List (PV×PV)}{q q' w:PV}{id:Nat}{v:AV}
variable {K:PV->List (Nat×Blk)->List Nat->Prop}
end
end Go.Gl
namespace Go.Gl
open Go
structure Cu where
 i:Nat
 h:Int
section
variable [Amb]
variable {P:Program}{sg:FuncId->List Bool}{h:Nat->Blk}{k:Nat}{C:R->Prop}{S:St}{b:List UInt8}{s:Cu}{m:Bool}{id:Nat}
def XC(b:Blk)(F:List PV->Prop):Prop:=match b with| .live _ c=>F c|_=>False
def MUP(h:Nat->Blk)(fs:List Bool)(vs:List AV)(id:Nat)(K:List Arg->List Nat->List (Option (Nat×Option Nat))->Prop)(c:List PV):Prop:=
 pass h fs vs λas rd ms=>K (.mu true c::as) rd (some (id,none)::ms)
def MFP(id:Nat)(c:List PV)(K:List Arg->List Nat->List (Option (Nat×Option Nat))->Prop)(as:List Arg)(rd:List Nat)(ms:List (Option (Nat×Option Nat))):Prop:=K (.mu true c::as) rd (some (id,none)::ms)
theorem RA{fs:List Bool}{K:List Arg->List Nat->List (Option (Nat×Option Nat))->Prop}:pass h (true::fs) (.ptr id 0::vs) K=XC (h id) (MUP h fs vs id K):=by
 simp only[pass,XC,MUP];cases h id<;>rfl
theorem Mu{F:List PV->Prop}:XC (.live m c) F=F c:=_root_.id rfl
theorem Xy{fs:List Bool}{K:List Arg->List Nat->List (Option (Nat×Option Nat))->Prop}:MUP h fs vs id K c=pass h fs vs (MFP id c K):=_root_.id rfl
theorem RB{K:List Arg->List Nat->List (Option (Nat×Option Nat))->Prop}:pass h [] vs (MFP id c K)=zM h vs (PQ (MFP id c K)):=rQ
theorem Xz{K:List Arg->List Nat->List (Option (Nat×Option Nat))->Prop}{ms:List (Option (Nat×Option Nat))}:MFP id c K as rd ms=K (.mu true c::as) rd (some (id,none)::ms):=_root_.id rfl
end
attribute [go_sem] RA Mu Xy RB Xz
end Go.Gl
