/-
  What the functions compute, and what the law asks of it: texts joined. Conditions: those that each lemma names.
-/
import Derived.Test.YtbppfpdgahopeaaGreatDoorT3
import Derived.Test.YtbppfpdgahopeaaGreatDoorT1
import Derived.Test.YtbppfpdgahopeaaGreatDoorGlC
import Derived.Test.YtbppfpdgahopeaaGreatDoorT2
set_option linter.unusedSimpArgs false
set_option linter.unusedVariables false
set_option maxRecDepth 20000
set_option linter.unusedSectionVars false
set_option maxHeartbeats 16000000
namespace Go.Gl
open Go Go.Proofs
variable [Amb] [NoQ]
def fstN (n:Int):List Int→Nat
 |[]=>0
 |x::l=>if x<n then fstN n l+1 else 0
theorem pI {n:Int}:∀{l:List Int},fstN n l≤l.length
 |[]=>am _
 |x::l=>by have:=pI (n:=n) (l:=l);rw[fstN,aC];split<;>omega
theorem sQ {n:Int}:∀{l:List Int},(∀j,j<fstN n l→l.getD j 0<n)∧(fstN n l<l.length→¬l.getD (fstN n l) 0<n)
 |[]=>by simp[fstN]
 |x::l=>by
  obtain⟨h1,h2⟩:=sQ (n:=n) (l:=l)
  rw[fstN]
  by_cases q:x<n
  ·rw[if_pos q]
   refine⟨fun j hj=> ?_,fun h=> ?_⟩
   ·cases j with
    |zero=>exact q
    |succ j=>exact h1 j (by omega)
   ·exact h2 (by simpa using h)
  ·rw[if_neg q]
   exact⟨fun j hj=>absurd hj (by omega),fun _=>q⟩
def cz:List (List Int)→Int→List (List Int)×Nat
 |[],n=>([[n]],0)
 |l::T,n=>if fstN n l=l.length then((l++[n])::T,0)else(l.set (fstN n l) n::(cz T (l.getD (fstN n l) 0)).1,(cz T (l.getD (fstN n l) 0)).2+1)
theorem jK:∀{T:List (List Int)} {n:Int},(cz T n).2≤T.length∧(cz T n).1.length=if(cz T n).2=T.length then T.length+1 else T.length
 |[],n=>by simp[cz]
 |l::T,n=>by
  rw[cz]
  split
  ·simp
  ·have:=jK (T:=T) (n:=l.getD (fstN n l) 0)
   simp only[aC]
   refine⟨by omega, ?_⟩
   rw[this.2];split<;>split<;>omega
def bG (p:List Int):Nat→List (List Int)×List (List Int)
 |0=>([],[])
 |k+1=>((cz (bG p k).1 (p.getD k 0)).1,if(cz (bG p k).1 (p.getD k 0)).2=(bG p k).2.length then(bG p k).2++[[(k:Int)+1]]else(bG p k).2.set (cz (bG p k).1 (p.getD k 0)).2 ((bG p k).2.getD (cz (bG p k).1 (p.getD k 0)).2 []++[(k:Int)+1]))
theorem jQ {p:List Int}:∀{k:Nat},(bG p k).1.length=(bG p k).2.length
 |0=>rfl
 |k+1=>by
  have h:=jQ (p:=p) (k:=k)
  have h2:=jK (T:=(bG p k).1) (n:=p.getD k 0)
  rw[bG]
  simp only[]
  rw[h2.2,h]
  split<;>simp
theorem u6 {B:Nat}:∀{T:List (List Int)} {n:Int},(∀l∈T,l.length≤B)→∀l∈(cz T n).1,l.length≤B+1
 |[],n,_,l,hl=>by simp[cz]at hl;subst hl;simp
 |r::T,n,h,l,hl=>by
  have h0:=h r List.mem_cons_self
  rw[cz]at hl
  split at hl
  ·rcases List.mem_cons.1 hl with q|q
   ·subst q;simp;omega
   ·have:=h l (aY _ q);omega
  ·rcases List.mem_cons.1 hl with q|q
   ·subst q;simp;omega
   ·exact u6 (fun x hx=>h x (aY _ hx)) l q
theorem uf {p:List Int}:∀{k:Nat},(bG p k).1.length≤k∧(∀l∈(bG p k).1,l.length≤k)∧∀l∈(bG p k).2,l.length≤k
 |0=>by simp[bG]
 |k+1=>by
  obtain⟨h1,h2,h3⟩:=uf (p:=p) (k:=k)
  have g:=jK (T:=(bG p k).1) (n:=p.getD k 0)
  rw[bG]
  refine⟨by simp only[];rw[g.2];split<;>omega,u6 h2,fun l hl=> ?_⟩
  simp only[]at hl
  split at hl
  ·rcases List.mem_append.1 hl with q|q
   ·have:=h3 l q;omega
   ·simp at q;subst q;simp
  ·rcases List.mem_or_eq_of_mem_set hl with q|q
   ·have:=h3 l q;omega
   ·subst q
    rename_i hr
    have hlen:=jQ (p:=p) (k:=k)
    have:=h3 _ (aF (d:=[]) (show(cz (bG p k).1 (p.getD k 0)).2<(bG p k).2.length by omega))
    rw[ak,List.length_singleton];omega
section
variable {P:Program} {h:Nat→Blk} {k:Nat} {C:R→Prop}
theorem v_callTe {α:Type} {g:α→PV} {L:List (List α)} {kd:IntKind} {n:Int} {f:FuncId} {c:List PV} {ag:List Arg} {os:List (Option (List PV))} {rd:List Nat} {ms:List (Option (Nat×Option Nat))} {id:Nat}
  (hf:CallT P true f (.mu false c::ag) (none::os) [.dl (L.map (List.map g)),.int kd n]) (hn:(ms.all Option.isNone)=true) (hid:id∉rd)
  (hc:C ⟨.tup [.ref k 0 L.length,.p (.int kd n)],[(id,.dead),(k,dk g (qX (h id)) L)],id::rd⟩):Pk P h k f C (.mu false c::ag) rd (some (id,none)::ms):=by
 refine lp hf hn hid ?_
 simp only[aJ]
 have e1:impAll k [.dl (L.map (List.map g)),.int kd n]=.tup [.ref k 0 L.length,.p (.int kd n)]:=by simp[impAll,imps,imp,imp1]
 have e2:impWs (true&&qX (h id)) k [.dl (L.map (List.map g)),.int kd n]=[(k,dk g (qX (h id)) L)]:=by simp[impWs,impW,impW1,dk]
 rw[e1,e2]
 exact hc
theorem O4 {α:Type} {f:α→PV} {m:Bool} {L:List (List α)} {id r len:Nat} {ys:List PV} {rd:List Nat}:Pr (dk f m L) id r len k C ys rd=(r<L.length∧len=(L.getD r []).length∧id∉rd∧len+ys.length≤1099511627776∧C ⟨.ref k 0 (len+ys.length),[(id,iZ f m (List.range L.length) ((L.map some).set r none)),(k,.live m ((L.getD r []).map f++ys))],id::rd⟩):=by
 rw[Oh,EK,ax]
 by_cases hr:r<L.length
 ·rw[ae hr,Option.map_some,EM]
  have e:L.getD r []=L[r]:=by rw[ac,ae hr];rfl
  simp only[e,hr,true_and]
 ·rw[aO (by omega)];simp[hr,W0]
theorem Nl {id off len:Nat} {rows:List (List PV)} {kd kd':IntKind} {n n':Int}:dy true h k [.ref id off len,.p (.int kd n)] [.dl rows,.int kd' n'] F0=(wG (h id) true k id off len rows FT∧kd=kd'∧n=n'):=by
 simp only[dy,fin,dX,wG]
 cases h id with
 |deep m cs rs=>
  simp only[AV.p.injEq,PV.int.injEq,aN,F0,FT,List.pairwise_cons,List.not_mem_nil,false_imp_iff,implies_true,List.Pairwise.nil,and_true,_root_.and_true,and_self]
  apply propext;constructor
  ·rintro⟨h1,h2,sel,h3,h4,h5⟩;exact⟨⟨h1,h2,sel,h3,h4⟩,h5.1,h5.2⟩
  ·rintro⟨⟨h1,h2,sel,h3,h4⟩,h5,h6⟩;exact⟨h1,h2,sel,h3,h4,h5,h6⟩
 |_=>simp
theorem Ki {m m':Bool} {cs:List Nat} {L:List (Option (List Int))} {n:Int} {id off id' off' len:Nat}:kC (iZ (PV.int .i64) m cs L) (.live m' [PV.int .i64 n]) id off id' off' len C=((m'=true→m=true)∧off'=0∧len=1∧off<cs.length∧id'≠id∧C ⟨.p .any,[(id',.dead),(id,iZ (PV.int .i64) m (cs.set off L.length) (L++[some [n]]))],[id,id']⟩):=BT (l:=[n])
theorem Wm {m:Bool} {U:List (List Int)} {v:Int} {id len j n:Nat}:zy (dk (PV.int .i64) m U) (.deep false [.row 0] [some [PV.int .i64 v]]) id len j n k C=zy (dk (PV.int .i64) m U) (dk (PV.int .i64) false [[v]]) id len j n k C:=_root_.id rfl
end
attribute [go_sem] O4 Wm Nl Ki
def oI:FuncId→List Bool:=fun f=>if f=153 then[true]else if f=4294967297 then[true,false,false,false]else[]
theorem Cl {f:FuncId}:oI f=if f=153 then[true]else if f=4294967297 then[true,false,false,false]else[]:=_root_.id rfl
theorem zI:gk oI=false∧gG oI=true∧gF oI=false∧gE oI=false∧gH oI=false:=⟨rfl,rfl,rfl,rfl,rfl⟩
attribute [go_sem] Cl zI
theorem sY {T:List (List Int)} {r:Nat} (h:r<T.length):T.drop r=T.getD r []::T.drop (r+1):=by
 rw[ac,ae h,Option.getD_some,List.drop_eq_getElem_cons h]
theorem Qo {β:Type} {l:List β} {i:Nat} {x:β} (h:i<l.length):(l.set i x).take (i+1)=l.take i++[x]:=by
 rw[List.set_eq_take_append_cons_drop,if_pos h,List.take_append,ah (by simp;omega),aV,Nat.min_eq_left (by omega),Nat.add_sub_cancel_left];rfl
theorem Jf {β:Type} {l:List β} {i:Nat} {x:β}:(l.set i x).drop (i+1)=l.drop (i+1):=by rw[List.drop_set,if_pos (by omega)]
theorem Ke {β:Type} {l:List β} {i:Nat} {x:β} (h:i<l.length):l.set i x=l.take i++x::l.drop (i+1):=by rw[List.set_eq_take_append_cons_drop,if_pos h]
theorem RQ {n i:Nat} (h:i<n):(List.range n).getD i 0=i:=by rw[ac,List.getElem?_range h];rfl
theorem rZ (T:List (List Int)) (n:Int) (hT:T.length≤1000) (hl:∀l∈T,l.length≤1000):
  CallT Tryz.prog true 153 [.mu false [.dl (List.map (List.map (PV.int .i64)) T)],.pv (.int .i64 n)] [none,none] [.dl (List.map (List.map (PV.int .i64)) (cz T n).1),.int .i64 ((cz T n).2:Int)]:=by
 refine CallT.of (sg:=oI) (ts:=[4,5]) mo Tryz.func153 rfl rfl rfl rfl (by kernel_rfl) (by simp only[go_sem]) rfl (by simp only[go_sem]) ?_
 refine lT trivial ?_
 all_goals try(apply aq;repeat' first|exact ao|apply aa|(apply au;intro zb hc)|(apply ar;intro zb)|intro j')<;>try apply aw
 refine az (fun ms1 S1=>∃(r:Nat) (U:List (List Int)) (v:Int),S1.e 0=.ref 0 0 (U).length∧S1.h 0=dk (PV.int .i64) true (U)∧0<S1.n∧S1.e 1=.p (.int .i64 (v))∧S1.e 6=.p (.int .i64 (r))∧(r≤T.length)∧(U.length=T.length)∧(U.drop r=T.drop r)∧((cz T n).1=U.take r++(cz (T.drop r) v).1)∧((cz T n).2=r+(cz (T.drop r) v).2)∧ms1=T.length - r) ((fun(r:Nat) (U:List (List Int)) (v:Int)=>T.length - r) (0) (T) (n)) ?_ ⟨0,T,n,dC trivial ?_⟩
 all_goals try(apply aq;repeat' first|exact ao|apply aa|(apply au;intro zb hc)|(apply ar;intro zb)|intro j')<;>try apply aw
 rintro ms1 S1 ⟨r,U,v,h1_0,b1_0,l1_0,h1_1,h1_6,c1_0,c1_1,c1_2,c1_3,c1_4,hm1⟩
 have n0:=bi (x:=0) (n:=S1.n)
 have fL1:=(aa h1_0 (aa b1_0 (aa h1_1 (aa h1_6 n0))))
 ·by_cases hr:r<T.length
  ·have d1:T.drop r=U.getD r []::T.drop (r+1):=by
    rw[←c1_2,sY (by omega),show U.drop (r+1)=T.drop (r+1)by rw[←List.drop_drop,←List.drop_drop,c1_2]]
   have d2:(U.getD r []).length≤1000:=by
    refine hl _ ?_
    have:U.getD r []∈T.drop r:=by rw[d1];exact List.mem_cons_self
    exact List.mem_of_mem_drop this
   obtain⟨row,hrow⟩:∃row,U.getD r []=row:=⟨_,rfl⟩
   rw[hrow]at d1 d2
   obtain⟨s1,s2⟩:=sQ (n:=v) (l:=row)
   have s3:=pI (n:=v) (l:=row)
   refine lT (aa fL1 @hrow) ?_
   all_goals try(apply aq;repeat' first|exact ao|apply aa|(apply au;intro zb hc)|(apply ar;intro zb)|intro j')<;>try apply aw
   refine az (fun ms2 S2=>∃(c:Nat),S2.e 0=.ref 0 0 (U).length∧S2.h 0=dk (PV.int .i64) true (U)∧0<S2.n∧S2.e 1=.p (.int .i64 (v))∧S2.e 6=.p (.int .i64 (r))∧S2.e 7=.p (.int .i64 (c))∧(c≤fstN v row)∧S1.n≤S2.n∧ms2=fstN v row - c) ((fun(c:Nat)=>fstN v row - c) (0)) ?_ ⟨0,dC fL1 ?_⟩
   all_goals try(apply aq;repeat' first|exact ao|apply aa|(apply au;intro zb hc)|(apply ar;intro zb)|intro j')<;>try apply aw
   rintro ms2 S2 ⟨c,h2_0,b2_0,l2_0,h2_1,h2_6,h2_7,c2_0,u2_0,hm2⟩
   have n0:=bi (x:=0) (n:=S2.n)
   have fL2:=(aa h2_0 (aa b2_0 (aa h2_1 (aa h2_6 (aa h2_7 n0)))))
   ·by_cases hc:c<fstN v row
    ·have s4:=s1 c hc
     refine lT (aa fL2 @hrow) ?_
     all_goals try(apply aq;repeat' first|exact ao|apply aa|(apply au;intro zb hc)|(apply ar;intro zb)|intro j')<;>try apply aw
     focus
      refine ay ((fun(c:Nat)=>fstN v row - c) (c+1)) (dC fL2 ?_) ⟨c+1,dC fL2 ?_⟩
      all_goals try(apply aq;repeat' first|exact ao|apply aa|(apply au;intro zb hc)|(apply ar;intro zb)|intro j')<;>try apply aw
    ·obtain rfl:c=fstN v row:=by omega
     by_cases he:fstN v row=row.length
     ·have p1:cz (T.drop r) v=((row++[v])::T.drop (r+1),0):=by rw[d1,cz,if_pos he]
      rw[p1]at c1_3 c1_4
      have p2:(cz T n).1=U.set r (row++[v]):=by
       rw[c1_3,Ke (by omega),show U.drop (r+1)=T.drop (r+1)by rw[←List.drop_drop,←List.drop_drop,c1_2]]
      have p3:=mK (BI (T:=U)) (i:=r) (l:=row++[v]) (by omega)
      rw[RQ (by omega)]at p3
      refine lT (aa fL2 (aa @hrow @he)) ?_
      all_goals try(apply aq;repeat' first|exact ao|apply aa|(apply au;intro zb hc)|(apply ar;intro zb)|intro j')<;>try apply aw
      ·exact y8 (T:=U.set r (row++[v])) p3 (fun h=>h) (by rw[p2]) (by simp) trivial
     ·have s4:=s2 (by omega)
      have p1:cz (T.drop r) v=(row.set (fstN v row) v::(cz (T.drop (r+1)) (row.getD (fstN v row) 0)).1,(cz (T.drop (r+1)) (row.getD (fstN v row) 0)).2+1):=by rw[d1,cz,if_neg he]
      rw[p1]at c1_3 c1_4
      refine lT (aa fL2 @hrow) ?_
      all_goals try(apply aq;repeat' first|exact ao|apply aa|(apply au;intro zb hc)|(apply ar;intro zb)|intro j')<;>try apply aw
      focus
       refine ay ((fun(r:Nat) (U:List (List Int)) (v:Int)=>T.length - r) (r+1) (U.set r (row.set (fstN v row) v)) (row.getD (fstN v row) 0)) (dC fL2 ?_) ⟨r+1,U.set r (row.set (fstN v row) v),row.getD (fstN v row) 0,dC fL2 ?_⟩
       all_goals try(apply aq;repeat' first|exact ao|apply aa|(apply au;intro zb hc)|(apply ar;intro zb)|intro j')<;>try apply aw
      all_goals first|(rw[Jf,←List.drop_drop,←List.drop_drop,c1_2];done)|(rw[Qo (by omega),c1_3];simp;done)|(rw[c1_4];omega)|trace_state
  ·have p1:cz (T.drop r) v=([[v]],0):=by rw[aL (by omega),cz]
   rw[p1]at c1_3 c1_4
   rw[ah (by omega)]at c1_3
   refine lT fL1 ?_
   all_goals try(apply aq;repeat' first|exact ao|apply aa|(apply au;intro zb hc)|(apply ar;intro zb)|intro j')<;>try apply aw
   ·rw[ah (by simp),c1_3]
theorem bt {m0:Bool} (p:List Int) (h8:p.length≤8):Fun Tryz.prog 113 [(.sl (.lent m0) (List.map (PV.int .i64) (p)))] [(.dl (List.map (List.map (PV.int .i64)) ((bG p p.length).1))),(.dl (List.map (List.map (PV.int .i64)) ((bG p p.length).2)))]:=by
 refine fO oI [2,3] Tryz.func113 ?_
 refine WV trivial ?_
 all_goals try(apply aq;repeat' first|exact ao|apply aa|(apply au;intro zb hc)|(apply ar;intro zb)|intro j')<;>try apply aw
 refine az (fun ms1 S1=>∃(k:Nat) (cs:List Nat) (L:List (Option (List Int))),S1.e 0=.p (.sl (.lent m0) (List.map (PV.int .i64) (p)))∧DwnL (S1.e 4) S1.h S1.n (PV.int .i64) (((bG p k).1).length) ((bG p k).1)∧GwnL (S1.e 5) S1.h S1.n (PV.int .i64) (cs) (L)∧S1.e 6=.p (.int .i64 (k))∧(k≤p.length)∧(Tb cs L (bG p k).2)∧NId (S1.e 5) (S1.e 4)∧ms1=p.length - k) ((fun(k:Nat) (cs:List Nat) (L:List (Option (List Int)))=>p.length - k) (0) ([]) ([])) ?_ ⟨0,[],[],dC trivial ?_⟩
 all_goals try(apply aq;repeat' first|exact ao|apply aa|(apply au;intro zb hc)|(apply ar;intro zb)|intro j')<;>try apply aw
 rintro ms1 S1 ⟨k,cs,L,h1_0,o1_4,o1_5,h1_6,c1_0,c1_1,u1_0,hm1⟩
 obtain⟨i1_4,h1_4,b1_4,l1_4⟩:=o1_4.out
 obtain⟨i1_5,h1_5,b1_5,l1_5⟩:=o1_5.out
 have k1_0:=(u1_0).out h1_5 h1_4
 have ni1_4:=bi (x:=i1_4) (n:=S1.n)
 have ni1_5:=bi (x:=i1_5) (n:=S1.n)
 have di1_4i1_5:=ds (x:=i1_4) (y:=i1_5)
 have fL1:=(aa h1_0 (aa h1_6 (aa h1_4 (aa b1_4 (aa h1_5 (aa b1_5 (aa ni1_4 (aa ni1_5 di1_4i1_5))))))))
 ·obtain⟨i1,i2,i3⟩:=uf (p:=p) (k:=k)
  have i4:=jQ (p:=p) (k:=k)
  by_cases hk:k<p.length
  ·have hT:=c1_1.len
   have q1:=jK (T:=(bG p k).1) (n:=p.getD k 0)
   have q2:bG p (k+1)=((cz (bG p k).1 (p.getD k 0)).1,if(cz (bG p k).1 (p.getD k 0)).2=(bG p k).2.length then(bG p k).2++[[(k:Int)+1]]else(bG p k).2.set (cz (bG p k).1 (p.getD k 0)).2 ((bG p k).2.getD (cz (bG p k).1 (p.getD k 0)).2 []++[(k:Int)+1])):=rfl
   have cp:=rZ (bG p k).1 (p.getD k 0) (by omega) (fun l hl=>by have:=i2 l hl;omega)
   generalize hA:(bG p k).1=TA at*
   generalize hB:(bG p k).2=TB at*
   generalize hP:cz TA (p.getD k 0)=W at*
   obtain⟨TA',r⟩:=W
   simp only[]at q1 q2 cp
   by_cases hr:r=TB.length
   ·rw[if_pos hr]at q2
    have g0:((r:Int)=cs.length)=True:=eq_true (by omega)
    have t1:=tu (l:=([]:List Int)) c1_1
    have t2:=mK (i:=r) (l:=[(k:Int)+1]) t1 (by simp;omega)
    have e1:(cs++[L.length]).getD r 0=L.length:=DR (by omega)
    have e2:(L++[some ([]:List Int)])[L.length]? =some (some []):=DP rfl
    rw[e1]at t2
    have e9:(TB++[([]:List Int)]).set r [(k:Int)+1]=TB++[[(k:Int)+1]]:=by subst hr;simp
    rw[e9]at t2
    have cM1:= @cp
    refine WV (aa fL1 (aa @g0 (aa @e1 @e2))) ?_
    all_goals try(apply aq;repeat' first|exact ao|apply aa|(apply au;intro zb hc)|(apply ar;intro zb)|intro j')<;>try apply aw
    focus
     refine ay ((fun(k:Nat) (cs:List Nat) (L:List (Option (List Int)))=>p.length - k) (k+1) ((cs++[L.length]).set r ((L++[some []]).set L.length none).length) ((L++[some []]).set L.length none++[some [(k:Int)+1]])) (dC fL1 ?_) ⟨k+1,(cs++[L.length]).set r ((L++[some []]).set L.length none).length,(L++[some []]).set L.length none++[some [(k:Int)+1]],dC fL1 ?_⟩
     all_goals try(apply aq;repeat' first|exact ao|apply aa|(apply au;intro zb hc)|(apply ar;intro zb)|intro j')<;>try apply aw
    all_goals first|(rw[q2];exact t2)|(rw[q2];done)|(rw[q2];rfl)|trace_state
   ·rw[if_neg hr]at q2
    have g0:((r:Int)=cs.length)=False:=eq_false (by omega)
    have e2:=c1_1.at_ r (by omega)
    have t2:=mK (i:=r) (l:=TB.getD r []++[(k:Int)+1]) c1_1 (by omega)
    have e3:=i3 (TB.getD r []) (aF (by omega))
    have cM1:= @cp
    refine WV (aa fL1 (aa @g0 @e2)) ?_
    all_goals try(apply aq;repeat' first|exact ao|apply aa|(apply au;intro zb hc)|(apply ar;intro zb)|intro j')<;>try apply aw
    focus
     refine ay ((fun(k:Nat) (cs:List Nat) (L:List (Option (List Int)))=>p.length - k) (k+1) (cs.set r (L.set (cs.getD r 0) none).length) (L.set (cs.getD r 0) none++[some (TB.getD r []++[(k:Int)+1])])) (dC fL1 ?_) ⟨k+1,cs.set r (L.set (cs.getD r 0) none).length,L.set (cs.getD r 0) none++[some (TB.getD r []++[(k:Int)+1])],dC fL1 ?_⟩
     all_goals try(apply aq;repeat' first|exact ao|apply aa|(apply au;intro zb hc)|(apply ar;intro zb)|intro j')<;>try apply aw
    all_goals first|(rw[q2];exact t2)|(rw[q2];done)|(rw[q2];rfl)|trace_state
  ·obtain rfl:k=p.length:=by omega
   have cM1:=trivial
   refine WV fL1 ?_
   all_goals try(apply aq;repeat' first|exact ao|apply aa|(apply au;intro zb hc)|(apply ar;intro zb)|intro j')<;>try apply aw
   refine y8 c1_1 (fun h=>by cases h) rfl c1_1.len ?_
   simp only[FK,FL,dy,F0,aR,List.cons_append,aN]
   refine List.Pairwise.cons (fun q hq=> ?_) (List.pairwise_singleton _ _)
   rw[aP]at hq
   subst hq
   exact .inl (show i1_4≠i1_5 by omega)
 all_goals exact Tb.nil
end Go.Gl
namespace Go.Gl
open Go Go.Proofs
variable [Amb] [NoQ]
theorem Co {row:List Int} {c:Nat} {n:Int} (h:c<row.length):(row.getD c 0::row.set c n).Perm (n::row):=by
 rw[Ke h]
 conv=>rhs;rw[←List.take_append_drop c row,bH h]
 refine(List.Perm.cons _ List.perm_middle).trans ((List.Perm.swap _ _ _).trans ?_)
 exact List.Perm.cons _ List.perm_middle.symm
theorem putT_perm:∀{T:List (List Int)} {n:Int},(cz T n).1.flatten.Perm (n::T.flatten)
 |[],n=>by simp[cz]
 |l::T,n=>by
  rw[cz]
  split
  ·simp only[List.flatten_cons]
   rw[aB]
   exact List.perm_middle
  ·rename_i h
   have hc:fstN n l<l.length:=by have:=pI (n:=n) (l:=l);omega
   simp only[List.flatten_cons]
   refine(List.Perm.append_left _ putT_perm).trans ?_
   refine List.perm_middle.trans ?_
   rw[←List.cons_append,←List.cons_append]
   exact List.Perm.append_right _ (Co hc)
theorem oe {p:List Int}:∀{k:Nat},k≤p.length→(bG p k).1.flatten.Perm (p.take k)
 |0,_=>by simp[bG]
 |k+1,h=>by
  rw[bG,aX (d:=0) (by omega)]
  refine putT_perm.trans ((List.Perm.cons _ (oe (by omega))).trans ?_)
  exact(List.perm_append_singleton _ _).symm
theorem Ha {p:List Int} (hp:p.Nodup) {k:Nat} (h:k<p.length):(bG p k).1.flatten.Nodup∧p.getD k 0∉(bG p k).1.flatten:=by
 have h1:=oe (p:=p) (k:=k) (by omega)
 refine⟨(h1.nodup_iff).2 (hp.sublist (List.take_sublist _ _)),fun hm=> ?_⟩
 have h2:=h1.subset hm
 have h3:(p.take (k+1)).Nodup:=hp.sublist (List.take_sublist _ _)
 rw[aX (d:=0) h,List.nodup_append]at h3
 exact h3.2.2 _ h2 _ (by simp) rfl
theorem yS {v:Int}:∀{l:List Int} {i:Nat},v∉l→ot (fun x=>decide (v<x)) l i=if fstN v l=l.length then -1 else(i:Int)+fstN v l
 |[],i,_=>by simp[ot,fstN]
 |x::l,i,h=>by
  have hx:x≠v:=fun e=>h (by simp[e])
  have ih:=yS (l:=l) (i:=i+1) (fun q=>h (aY _ q))
  by_cases q:v<x
  ·have hf:fstN v (x::l)=0:=by rw[fstN,if_neg (by omega)]
   rw[ot,if_pos (decide_eq_true q),hf,if_neg (by simp)];simp
  ·have hf:fstN v (x::l)=fstN v l+1:=by rw[fstN,if_pos (by omega)]
   have hi:ot (fun x=>decide (v<x)) (x::l) i=ot (fun x=>decide (v<x)) l (i+1):=by rw[ot,if_neg (by simpa using q)]
   rw[hi,hf,ih,aC]
   by_cases g:fstN v l=l.length
   ·rw[if_pos g,if_pos (by omega)]
   ·rw[if_neg g,if_neg (by omega)];omega
theorem lI (x v:Int):Fun Tryz.prog 115 [(.int .i64 (x)),(.pc [.int .i64 v])] [(.bool (decide (v<x)))]:=by
 refine fO bA [3] Tryz.func115 ?_
 refine aQ trivial ?_
 all_goals try(apply aq;repeat' first|exact ao|apply aa|(apply au;intro zb hc)|(apply ar;intro zb)|intro j')<;>try apply aw
theorem BQ {C:R→Prop} {m m':Bool} {cs:List Nat} {L:List (Option (List Int))} {n:Int} {id off id' off' len:Nat} (h:off=cs.length):kC (Ix (PV.int .i64) m cs L) (.live m' [PV.int .i64 n]) id off id' off' len C=((m'=true→m=true)∧off'=0∧len=1∧id'≠id∧C ⟨.p .any,[(id',.dead),(id,iZ (PV.int .i64) m (cs++[L.length]) (L++[some [n]]))],[id,id']⟩):=Kh (l:=[n]) h
def ql:FuncId→List Bool:=fun f=>if f=4294967297 then[true,false,false,false]else[]
theorem Cm {f:FuncId}:ql f=if f=4294967297 then[true,false,false,false]else[]:=_root_.id rfl
theorem zJ:gk ql=false∧gG ql=true∧gF ql=false∧gE ql=false∧gH ql=false:=⟨rfl,rfl,rfl,rfl,rfl⟩
attribute [go_sem] Cm zJ
theorem ga {m0:Bool} (p:List Int) (hl:p.length≤1048576) (hp:al p=true):Fun Tryz.prog 61 [(.sl (.lent m0) (List.map (PV.int .i64) (p)))] [(.dl (List.map (List.map (PV.int .i64)) ((bG p p.length).1))),(.dl (List.map (List.map (PV.int .i64)) ((bG p p.length).2))),(.bool (true))]:=by
 refine fO ql [2,3,4] Tryz.func61 ?_
 have cE1:= @aA;have cE2:= @bF;have cD1:=iE [false,false,false,false,false,false,false,false,false,false,false,false,false,false,true,true] [];have cD2:=iE [false,false,false,false,false,false,false,false,false,true,true,false,false,false,false,false,false,true,true,false,true,false,true] [(0,9),(1,9),(2,9),(3,9),(4,9),(5,9),(6,9),(7,9),(0,10),(1,10),(2,10),(3,10),(9,11),(10,11),(9,12),(10,12),(9,13),(10,13),(9,14),(10,14),(9,15),(10,15),(9,16),(10,16),(0,17),(1,17),(2,17),(3,17),(4,17),(5,17),(6,17),(7,17),(8,17),(9,17),(10,17),(11,17),(12,17),(13,17),(14,17),(0,18),(1,18),(2,18),(3,18),(2,20),(3,20)]
 have h8:p.length≤8:=by simp[al]at hp;exact hp.1
 have hnd:p.Nodup:=(permB_iff.1 (by simp[al]at hp;exact hp.2)).2
 refine aQ @hp ?_
 all_goals try(apply aq;repeat' first|exact ao|apply aa|(apply au;intro zb hc)|(apply ar;intro zb)|intro j')<;>try apply aw
 refine az (fun ms1 S1=>∃(k:Nat) (cs:List Nat) (L:List (Option (List Int))) (cb:List Nat) (N:List (Option (List Int))),S1.e 0=.p (.sl (.lent m0) (List.map (PV.int .i64) (p)))∧GwnL (S1.e 5) S1.h S1.n (PV.int .i64) (cs) (L)∧GwnL (S1.e 6) S1.h S1.n (PV.int .i64) (cb) (N)∧S1.e 16=.p (.sl (.lent m0) (List.map (PV.int .i64) (p)))∧S1.e 17=.p (.int .i64 (p.length))∧S1.e 18=.p (.int .i64 (k))∧(k≤p.length)∧(Tb cs L (bG p k).1)∧(Tb cb N (bG p k).2)∧NId (S1.e 6) (S1.e 5)∧ms1=p.length - k) ((fun(k:Nat) (cs:List Nat) (L:List (Option (List Int))) (cb:List Nat) (N:List (Option (List Int)))=>p.length - k) (0) ([]) ([]) ([]) ([])) ?_ ⟨0,[],[],[],[],dC trivial ?_⟩
 all_goals try(apply aq;repeat' first|exact ao|apply aa|(apply au;intro zb hc)|(apply ar;intro zb)|intro j')<;>try apply aw
 rintro ms1 S1 ⟨k,cs,L,cb,N,h1_0,o1_5,o1_6,h1_16,h1_17,h1_18,c1_0,c1_1,c1_2,u1_0,hm1⟩
 obtain⟨i1_5,h1_5,b1_5,l1_5⟩:=o1_5.out
 obtain⟨i1_6,h1_6,b1_6,l1_6⟩:=o1_6.out
 have k1_0:=(u1_0).out h1_6 h1_5
 have ni1_5:=bi (x:=i1_5) (n:=S1.n)
 have ni1_6:=bi (x:=i1_6) (n:=S1.n)
 have di1_5i1_6:=ds (x:=i1_5) (y:=i1_6)
 have fL1:=(aa h1_0 (aa h1_16 (aa h1_17 (aa h1_18 (aa h1_5 (aa b1_5 (aa h1_6 (aa b1_6 (aa ni1_5 (aa ni1_6 di1_5i1_6))))))))))
 ·obtain⟨i1,i2,i3⟩:=uf (p:=p) (k:=k)
  have i4:=jQ (p:=p) (k:=k)
  by_cases hk:k<p.length
  ·have q1:=jK (T:=(bG p k).1) (n:=p.getD k 0)
   have q2:bG p (k+1)=((cz (bG p k).1 (p.getD k 0)).1,if(cz (bG p k).1 (p.getD k 0)).2=(bG p k).2.length then(bG p k).2++[[(k:Int)+1]]else(bG p k).2.set (cz (bG p k).1 (p.getD k 0)).2 ((bG p k).2.getD (cz (bG p k).1 (p.getD k 0)).2 []++[(k:Int)+1])):=rfl
   obtain⟨n1,n2⟩:=Ha hnd hk
   generalize hA:(bG p k).1=TA at*
   generalize hB:(bG p k).2=TB at*
   obtain⟨n,hn⟩:∃n,p.getD k 0=n:=⟨_,rfl⟩
   rw[hn]at q1 q2 n2
   have lb:=c1_2.len
   have la:=c1_1.len
   refine aQ (aa fL1 @hn) ?_
   all_goals try(apply aq;repeat' first|exact ao|apply aa|(apply au;intro zb hc)|(apply ar;intro zb)|intro j')<;>try apply aw
   refine az (fun ms2 S2=>∃(r:Nat) (U:List (List Int)) (M:List (Option (List Int))) (v:Int),S2.e 0=.p (.sl (.lent m0) (List.map (PV.int .i64) (p)))∧GwnL (S2.e 5) S2.h S2.n (PV.int .i64) (cs) (M)∧GwnL (S2.e 6) S2.h S2.n (PV.int .i64) (cb) (N)∧S2.e 7=.p (.int .i64 (k))∧PtrL (S2.e 8) S2.h S2.n (.live false [.int .i64 v])∧S2.e 9=.p (.int .i64 (r))∧S2.e 16=.p (.sl (.lent m0) (List.map (PV.int .i64) (p)))∧S2.e 17=.p (.int .i64 (p.length))∧S2.e 18=.p (.int .i64 (k))∧(r≤TA.length)∧(Tb cs M U)∧(U.length=TA.length)∧(U.drop r=TA.drop r)∧((cz TA n).1=U.take r++(cz (TA.drop r) v).1)∧((cz TA n).2=r+(cz (TA.drop r) v).2)∧((TA.drop r).flatten.Nodup)∧(v∉(TA.drop r).flatten)∧NId (S2.e 6) (S2.e 5)∧NId (nJ (S2.e 8)) (S2.e 5)∧NId (nJ (S2.e 8)) (S2.e 6)∧S1.n≤S2.n∧ms2=TA.length - r) ((fun(r:Nat) (U:List (List Int)) (M:List (Option (List Int))) (v:Int)=>TA.length - r) (0) (TA) (L) (n)) ?_ ⟨0,TA,L,n,dC fL1 ?_⟩
   all_goals try(apply aq;repeat' first|exact ao|apply aa|(apply au;intro zb hc)|(apply ar;intro zb)|intro j')<;>try apply aw
   rintro ms2 S2 ⟨r,U,M,v,h2_0,o2_5,o2_6,h2_7,o2_8,h2_9,h2_16,h2_17,h2_18,c2_0,c2_1,c2_2,c2_3,c2_4,c2_5,c2_6,c2_7,u2_0,u2_1,u2_2,u2_3,hm2⟩
   obtain⟨i2_5,h2_5,b2_5,l2_5⟩:=o2_5.out
   obtain⟨i2_6,h2_6,b2_6,l2_6⟩:=o2_6.out
   obtain⟨i2_8,h2_8,b2_8,l2_8⟩:=o2_8.out
   have k2_0:=(u2_0).out h2_6 h2_5
   have k2_1:=(u2_1).out (dp h2_8) h2_5
   have k2_2:=(u2_2).out (dp h2_8) h2_6
   have ni2_5:=bi (x:=i2_5) (n:=S2.n)
   have ni2_6:=bi (x:=i2_6) (n:=S2.n)
   have ni2_8:=bi (x:=i2_8) (n:=S2.n)
   have di2_5i2_6:=ds (x:=i2_5) (y:=i2_6)
   have di2_5i2_8:=ds (x:=i2_5) (y:=i2_8)
   have di2_6i2_8:=ds (x:=i2_6) (y:=i2_8)
   have fL2:=(aa h2_0 (aa h2_7 (aa h2_9 (aa h2_16 (aa h2_17 (aa h2_18 (aa h2_5 (aa b2_5 (aa h2_6 (aa b2_6 (aa h2_8 (aa b2_8 (aa ni2_5 (aa ni2_6 (aa ni2_8 (aa di2_5i2_6 (aa di2_5i2_8 di2_6i2_8)))))))))))))))))
   ·by_cases hr:r<TA.length
    ·have d1:TA.drop r=U.getD r []::TA.drop (r+1):=by
      rw[←c2_3,sY (by omega),show U.drop (r+1)=TA.drop (r+1)by rw[←List.drop_drop,←List.drop_drop,c2_3]]
     obtain⟨row,hrow⟩:∃row,U.getD r []=row:=⟨_,rfl⟩
     rw[hrow]at d1
     have d2:row.length≤k:=i2 _ (List.mem_of_mem_drop (i:=r) (by rw[d1];exact List.mem_cons_self))
     have e2:=c2_1.at_ r (by omega)
     rw[hrow]at e2
     rw[d1,List.flatten_cons]at c2_6 c2_7
     have nv:v∉row:=fun q=>c2_7 (List.mem_append.2 (.inl q))
     have ix:=yS (i:=0) nv
     have s3:=pI (n:=v) (l:=row)
     have c1:=bF (m0:=true) row 115 [.pc [.int .i64 v]] (fun x=>decide (v<x)) (by omega) (fun x _=>lI x v)
     by_cases he:fstN v row=row.length
     ·rw[if_pos he]at ix
      rw[ix]at c1
      have p1:cz (TA.drop r) v=((row++[v])::TA.drop (r+1),0):=by rw[d1,cz,if_pos he]
      rw[p1]at c2_4 c2_5
      have f0:(r=cs.length)=False:=eq_false (by omega)
      have e3:=c1_2.at_ r (by omega)
      have e4:=i3 (TB.getD r []) (aF (by omega))
      have p2:(cz TA n).1=U.set r (row++[v]):=by
       rw[c2_4,Ke (by omega),show U.drop (r+1)=TA.drop (r+1)by rw[←List.drop_drop,←List.drop_drop,c2_3]]
      have p3:=mK (i:=r) (l:=row++[v]) c2_1 (by omega)
      have p4:=mK (i:=r) (l:=TB.getD r []++[(k:Int)+1]) c1_2 (by omega)
      have p5:(cz TA n).2=r:=by rw[c2_5];rfl
      rw[p2,p5,if_neg (by omega)]at q2
      have cE1:= @c1;have cE2:= @aA;have cE3:= @bF
      refine aQ (aa fL2 (aa @e2 (aa @e3 @f0))) ?_
      all_goals try(apply aq;repeat' first|exact ao|apply aa|(apply au;intro zb hc)|(apply ar;intro zb)|intro j')<;>try apply aw
      focus
       refine ay ((fun(k:Nat) (cs:List Nat) (L:List (Option (List Int))) (cb:List Nat) (N:List (Option (List Int)))=>p.length - k) (k+1) (cs.set r (M.set (cs.getD r 0) none).length) (M.set (cs.getD r 0) none++[some (row++[v])]) (cb.set r (N.set (cb.getD r 0) none).length) (N.set (cb.getD r 0) none++[some (TB.getD r []++[(k:Int)+1])])) (dC fL2 ?_) ⟨k+1,cs.set r (M.set (cs.getD r 0) none).length,M.set (cs.getD r 0) none++[some (row++[v])],cb.set r (N.set (cb.getD r 0) none).length,N.set (cb.getD r 0) none++[some (TB.getD r []++[(k:Int)+1])],dC fL2 ?_⟩
       all_goals try(apply aq;repeat' first|exact ao|apply aa|(apply au;intro zb hc)|(apply ar;intro zb)|intro j')<;>try apply aw
      all_goals first|(rw[q2];exact p3)|(rw[q2];exact p4)|trace_state
     ·rw[if_neg he]at ix
      rw[ix]at c1
      have p1:cz (TA.drop r) v=(row.set (fstN v row) v::(cz (TA.drop (r+1)) (row.getD (fstN v row) 0)).1,(cz (TA.drop (r+1)) (row.getD (fstN v row) 0)).2+1):=by rw[d1,cz,if_neg he]
      rw[p1]at c2_4 c2_5
      have e5:((0:Nat)+(fstN v row:Int)).toNat=fstN v row:=by omega
      have e6:((0:Int)+(fstN v row:Int)).toNat=fstN v row:=by omega
      have p3:=Kf (i:=r) (l:=row.set (fstN v row) v) c2_1 (by omega)
      have nd2:=List.nodup_append.1 c2_6
      have hmem:row.getD (fstN v row) 0∈row:=aF (by omega)
      have cE1:= @c1;have cE2:= @aA;have cE3:= @bF
      refine aQ (aa fL2 (aa @e2 (aa @e5 @e6))) ?_
      all_goals try(apply aq;repeat' first|exact ao|apply aa|(apply au;intro zb hc)|(apply ar;intro zb)|intro j')<;>try apply aw
      focus
       refine ay ((fun(r:Nat) (U:List (List Int)) (M:List (Option (List Int))) (v:Int)=>TA.length - r) (r+1) (U.set r (row.set (fstN v row) v)) (M.set (cs.getD r 0) (some (row.set (fstN v row) v))) (row.getD (fstN v row) 0)) (dC fL2 ?_) ⟨r+1,U.set r (row.set (fstN v row) v),M.set (cs.getD r 0) (some (row.set (fstN v row) v)),row.getD (fstN v row) 0,dC fL2 ?_⟩
       all_goals try(apply aq;repeat' first|exact ao|apply aa|(apply au;intro zb hc)|(apply ar;intro zb)|intro j')<;>try apply aw
      all_goals first|exact p3|exact nd2.2.1|(intro q;exact nd2.2.2 _ hmem _ q rfl)|(rw[Jf,←List.drop_drop,←List.drop_drop,c2_3];done)|(rw[Qo (by omega),c2_4];simp;done)|(rw[c2_5];omega)|trace_state
    ·have p1:cz (TA.drop r) v=([[v]],0):=by rw[aL (by omega),cz]
     rw[p1]at c2_4 c2_5
     have f0:(r=cs.length)=True:=eq_true (by omega)
     have hr1:r=cs.length:=by omega
     have hr2:r=cb.length:=by omega
     have l1:∀{m L id C},sc (Ix (PV.int .i64) m cs L) id r C=C ⟨.p (.sl .own []),[],[id]⟩:=fun {m L id C}=>Jt hr1
     have l2:∀{m L id C},sc (Ix (PV.int .i64) m cb L) id r C=C ⟨.p (.sl .own []),[],[id]⟩:=fun {m L id C}=>Jt hr2
     have g1:=fun {m m' L n id id' off' len C}=>BQ (m:=m) (m':=m') (L:=L) (n:=n) (id:=id) (id':=id') (off':=off') (len:=len) (C:=C) hr1
     have g2:=fun {m m' L n id id' off' len C}=>BQ (m:=m) (m':=m') (L:=L) (n:=n) (id:=id) (id':=id') (off':=off') (len:=len) (C:=C) hr2
     have p2:(cz TA n).1=U++[[v]]:=by rw[c2_4,ah (by omega)]
     have p3:=tu (l:=[v]) c2_1
     have p4:=tu (l:=[(k:Int)+1]) c1_2
     have p5:(cz TA n).2=TB.length:=by rw[c2_5];simp;omega
     rw[p2,p5,if_pos rfl]at q2
     have cE1:= @aA;have cE2:= @bF;have cE3:=trivial
     refine aQ (aa fL2 (aa @f0 (aa @l1 (aa @l2 (aa @g1 @g2))))) ?_
     all_goals try(apply aq;repeat' first|exact ao|apply aa|(apply au;intro zb hc)|(apply ar;intro zb)|intro j')<;>try apply aw
     focus
      refine ay ((fun(k:Nat) (cs:List Nat) (L:List (Option (List Int))) (cb:List Nat) (N:List (Option (List Int)))=>p.length - k) (k+1) (cs++[M.length]) (M++[some [v]]) (cb++[N.length]) (N++[some [(k:Int)+1]])) (dC fL2 ?_) ⟨k+1,cs++[M.length],M++[some [v]],cb++[N.length],N++[some [(k:Int)+1]],dC fL2 ?_⟩
      all_goals try(apply aq;repeat' first|exact ao|apply aa|(apply au;intro zb hc)|(apply ar;intro zb)|intro j')<;>try apply aw
     all_goals first|(rw[q2];exact p3)|(rw[q2];exact p4)|trace_state
   all_goals first|exact c1_1|exact n1|exact n2|(simp;done)|trace_state
  ·obtain rfl:k=p.length:=by omega
   have cE1:= @aA;have cE2:= @bF;have cE3:=trivial
   refine aQ fL1 ?_
   all_goals try(apply aq;repeat' first|exact ao|apply aa|(apply au;intro zb hc)|(apply ar;intro zb)|intro j')<;>try apply aw
   refine y8 c1_1 (fun h=>by cases h) rfl c1_1.len ?_
   rw[JA]
   simp only[dy,U8,b1_6]
   refine y8 c1_2 (fun h=>by cases h) rfl c1_2.len ?_
   simp only[FL,fin,dX,F0,aR,List.cons_append,aN,true_and]
   refine List.Pairwise.cons (fun q hq=> ?_) (List.pairwise_singleton _ _)
   rw[aP]at hq
   subst hq
   exact .inl (show i1_5≠i1_6 by omega)
 all_goals exact Tb.nil
variable [TabA]
omit [TabA]in
theorem sK {p:List Int}:∀{k:Nat},(∀l∈(bG p k).2,∀x∈l,1≤x∧x≤(k:Int))
 |0=>by simp[bG]
 |k+1=>by
  have ih:=sK (p:=p) (k:=k)
  have hlen:=jQ (p:=p) (k:=k)
  have g:=jK (T:=(bG p k).1) (n:=p.getD k 0)
  rw[bG]
  simp only[]
  intro l hl x hx
  split at hl
  ·rcases List.mem_append.1 hl with q|q
   ·have:=ih l q x hx;omega
   ·rw[aP]at q;subst q
    rw[aP]at hx;omega
  ·rcases List.mem_or_eq_of_mem_set hl with q|q
   ·have:=ih l q x hx;omega
   ·subst q
    rcases List.mem_append.1 hx with q|q
    ·have:=ih _ (aF (by omega)) x q;omega
    ·rw[aP]at q;omega
omit [TabA]in
theorem mN {B:Nat}:∀{l:List Nat},(∀x∈l,x≤B)→mO l≤B*l.length
 |[],_=>by simp[mO]
 |x::l,h=>by
  have h1:=h x List.mem_cons_self
  have h2:=mN fun y hy=>h y (aY _ hy)
  rw[mO,aC,Nat.mul_add,Nat.mul_one];omega
omit [TabA]in
theorem qQ {p:List Int} (hp:al p=true):(bG p p.length).1.length≤8∧(bG p p.length).2.length≤8∧(∀l∈(bG p p.length).1,l.length≤8)∧(∀l∈(bG p p.length).2,l.length≤8)∧
  mO ((bG p p.length).1.map List.length)≤64∧mO ((bG p p.length).2.map List.length)≤64∧(∀l∈(bG p p.length).1,∀x∈l,0≤x∧x≤8)∧(∀l∈(bG p p.length).2,∀x∈l,0≤x∧x≤8):=by
 have h8:p.length≤8:=by simp[al]at hp;exact hp.1
 have hq:bD p=true:=by simp[al]at hp;exact hp.2
 obtain⟨h1,h2,h3⟩:=uf (p:=p) (k:=p.length)
 have h4:=jQ (p:=p) (k:=p.length)
 have hperm:=oe (p:=p) (k:=p.length) (am _)
 refine⟨by omega,by omega,fun l hl=>by have:=h2 l hl;omega,fun l hl=>by have:=h3 l hl;omega, ?_, ?_,fun l hl x hx=> ?_,fun l hl x hx=> ?_⟩
 ·have:=mN (B:=8) (l:=(bG p p.length).1.map List.length) (fun x hx=>by
   obtain⟨l,hl,rfl⟩:=List.mem_map.1 hx
   have:=h2 l hl;omega)
  rw[an]at this;omega
 ·have:=mN (B:=8) (l:=(bG p p.length).2.map List.length) (fun x hx=>by
   obtain⟨l,hl,rfl⟩:=List.mem_map.1 hx
   have:=h3 l hl;omega)
  rw[an]at this;omega
 ·have hm:x∈(bG p p.length).1.flatten:=List.mem_flatten.2 ⟨l,hl,hx⟩
  have:=(permB_iff.1 hq).1 x (List.mem_of_mem_take (hperm.subset hm));omega
 ·have:=sK (p:=p) l hl x hx;omega
def uR:FuncId→List Bool:=fun f=>if f=4294967297 then[true,false,false,false]else[]
theorem Fs {f:FuncId}:uR f=if f=4294967297 then[true,false,false,false]else[]:=_root_.id rfl
theorem Bl:gk uR=false∧gG uR=true∧gF uR=false∧gE uR=false∧gH uR=false:=⟨rfl,rfl,rfl,rfl,rfl⟩
attribute [go_sem] Fs Bl
theorem fS {m0:Bool} (p:List Int) (hl:p.length≤1048576) (hp:al p=true):Fun Tryz.prog 62 [(.sl (.lent m0) (List.map (PV.int .i64) (p)))] [(.dl (List.map (List.map (PV.int .i64)) ((bG p p.length).1))),(.dl (List.map (List.map (PV.int .i64)) ((bG p p.length).2))),(.bool (true))]:=by
 refine fO uR [2,3,4] Tryz.func62 ?_
 have cE1:= @aD;have cE2:= @bt
 have h8:p.length≤8:=by simp[al]at hp;exact hp.1
 refine aQ @hp ?_
 all_goals try(apply aq;repeat' first|exact ao|apply aa|(apply au;intro zb hc)|(apply ar;intro zb)|intro j')<;>try apply aw
theorem eS {m0:Bool} (p:List Int) (hl:p.length≤1048576) (hp:al p=false):Fun Tryz.prog 62 [(.sl (.lent m0) (List.map (PV.int .i64) (p)))] [(.dl (List.map (List.map (PV.int .i64)) (([]:List (List Int))))),(.dl (List.map (List.map (PV.int .i64)) (([]:List (List Int))))),(.bool (false))]:=by
 refine fO uR [2,3,4] Tryz.func62 ?_
 have cE1:= @aD;have cE2:= @bt
 refine aQ @hp ?_
 all_goals try(apply aq;repeat' first|exact ao|apply aa|(apply au;intro zb hc)|(apply ar;intro zb)|intro j')<;>try apply aw
def wO:FuncId→List Bool:=fun f=>if f=4294967297 then[true,false,true,false]else[]
theorem Fq {f:FuncId}:wO f=if f=4294967297 then[true,false,true,false]else[]:=_root_.id rfl
theorem Bj:gk wO=false∧gG wO=true∧gF wO=false∧gE wO=true∧gH wO=false:=⟨rfl,rfl,rfl,rfl,rfl⟩
attribute [go_sem] Fq Bj
theorem fe {m0:Bool} (p:List Int) (hl:p.length≤1048576) (hp:al p=false):Fun Tryz.prog 61 [(.sl (.lent m0) (List.map (PV.int .i64) (p)))] [(.dl (List.map (List.map (PV.int .i64)) (([]:List (List Int))))),(.dl (List.map (List.map (PV.int .i64)) (([]:List (List Int))))),(.bool (false))]:=by
 refine fO wO [2,3,4] Tryz.func61 ?_
 have cE1:= @aA;have cE2:= @bF;have cD1:=iE [false,false,false,false,false,false,false,false,false,false,false,false,false,false,true,true] [];have cD2:=iE [false,false,false,false,false,false,false,false,false,true,true,false,false,false,false,false,false,true,true,false,true,false,true] [(0,9),(1,9),(2,9),(3,9),(4,9),(5,9),(6,9),(7,9),(0,10),(1,10),(2,10),(3,10),(9,11),(10,11),(9,12),(10,12),(9,13),(10,13),(9,14),(10,14),(9,15),(10,15),(9,16),(10,16),(0,17),(1,17),(2,17),(3,17),(4,17),(5,17),(6,17),(7,17),(8,17),(9,17),(10,17),(11,17),(12,17),(13,17),(14,17),(0,18),(1,18),(2,18),(3,18),(2,20),(3,20)]
 refine aQ @hp ?_
 all_goals try(apply aq;repeat' first|exact ao|apply aa|(apply au;intro zb hc)|(apply ar;intro zb)|intro j')<;>try apply aw
def Pj (p:List Int):List UInt8:=if al p then(rT (bG p p.length).1++[32])++rT (bG p p.length).2 else[]
theorem ee {m0:Bool} (p:List Int) (hl:p.length≤1048576):Fun Tryz.prog 21 [(.sl (.lent m0) (List.map (PV.int .i64) (p)))] [(.str (Pj p))]:=by
 by_cases hp:al p=true
 ·obtain⟨a1,a2,a3,a4,a5,a6,a7,a8⟩:=qQ hp
  have g1:∀l∈(bG p p.length).1,∀x∈l, -9223372036854775808≤x∧x≤9223372036854775807:=fun l hl x hx=>by have:=a7 l hl x hx;omega
  have g2:∀l∈(bG p p.length).2,∀x∈l, -9223372036854775808≤x∧x≤9223372036854775807:=fun l hl x hx=>by have:=a8 l hl x hx;omega
  have t1:=mL g1
  have t2:=mL g2
  have g3:∀l∈(bG p p.length).1,l.length≤1048576:=fun l hl=>by have:=a3 l hl;omega
  have g4:∀l∈(bG p p.length).2,l.length≤1048576:=fun l hl=>by have:=a4 l hl;omega
  have c2:=fun m:Bool=>fS (m0:=m) p hl hp
  rw[Pj,if_pos hp]
  refine fO bA [2] Tryz.func21 ?_
  have cE1:= @eS;have cE2:= @fS;have cE3:= @ch
  have cE1:= @c2;have cE2:= @ch;have cE3:=trivial
  refine aQ trivial ?_
  all_goals try(apply aq;repeat' first|exact ao|apply aa|(apply au;intro zb hc)|(apply ar;intro zb)|intro j')<;>try apply aw
  all_goals first|exact g1|exact g2|exact g3|exact g4|trace_state
 ·rw[aI]at hp
  have c2:=fun m:Bool=>eS (m0:=m) p hl hp
  rw[Pj,hp]
  refine fO bA [2] Tryz.func21 ?_
  have cE1:= @eS;have cE2:= @fS;have cE3:= @ch
  have cE1:= @c2;have cE2:= @ch;have cE3:=trivial
  refine aQ trivial ?_
  all_goals try(apply aq;repeat' first|exact ao|apply aa|(apply au;intro zb hc)|(apply ar;intro zb)|intro j')<;>try apply aw
theorem ez {m0:Bool} (p:List Int) (hl:p.length≤1048576):Fun Tryz.prog 20 [(.sl (.lent m0) (List.map (PV.int .i64) (p)))] [(.str (Pj p))]:=by
 by_cases hp:al p=true
 ·obtain⟨a1,a2,a3,a4,a5,a6,a7,a8⟩:=qQ hp
  have g1:∀l∈(bG p p.length).1,∀x∈l, -9223372036854775808≤x∧x≤9223372036854775807:=fun l hl x hx=>by have:=a7 l hl x hx;omega
  have g2:∀l∈(bG p p.length).2,∀x∈l, -9223372036854775808≤x∧x≤9223372036854775807:=fun l hl x hx=>by have:=a8 l hl x hx;omega
  have t1:=mL g1
  have t2:=mL g2
  have g3:∀l∈(bG p p.length).1,l.length≤1048576:=fun l hl=>by have:=a3 l hl;omega
  have g4:∀l∈(bG p p.length).2,l.length≤1048576:=fun l hl=>by have:=a4 l hl;omega
  have c2:=fun m:Bool=>ga (m0:=m) p hl hp
  rw[Pj,if_pos hp]
  refine fO bA [2] Tryz.func20 ?_
  have cE1:= @fe;have cE2:= @ga;have cE3:= @co
  have cE1:= @c2;have cE2:= @co;have cE3:=trivial
  refine aQ trivial ?_
  all_goals try(apply aq;repeat' first|exact ao|apply aa|(apply au;intro zb hc)|(apply ar;intro zb)|intro j')<;>try apply aw
  all_goals first|exact g1|exact g2|exact g3|exact g4|trace_state
 ·rw[aI]at hp
  have c2:=fun m:Bool=>fe (m0:=m) p hl hp
  rw[Pj,hp]
  refine fO bA [2] Tryz.func20 ?_
  have cE1:= @fe;have cE2:= @ga;have cE3:= @co
  have cE1:= @c2;have cE2:= @co;have cE3:=trivial
  refine aQ trivial ?_
  all_goals try(apply aq;repeat' first|exact ao|apply aa|(apply au;intro zb hc)|(apply ar;intro zb)|intro j')<;>try apply aw
omit [TabA]in
end Go.Gl
namespace Go.Gl
open Go Go.Proofs
variable [Amb] [NoQ]
theorem jI (b:List UInt8) (hb:b.length≤1048576):∃p,Fun Tryz.prog 10 [.sl (.lent false) (b.map kA)] [.sl .own (List.map (PV.int .i64) p)]∧p.length≤1048576:=by
 obtain⟨s1,p,c1,hp⟩:=rV b ⟨0,o5 b (min b.length 4000)⟩ hb
 refine⟨p, ?_,hp⟩
 refine fO fV [2] Tryz.func10 ?_
 have cE1:= @ii
 have cM1:= @c1
 refine aQ trivial ?_
 all_goals try(apply aq;repeat' first|exact ao|apply aa|(apply au;intro zb hc)|(apply ar;intro zb)|intro j')<;>try apply aw
theorem j6 (b:List UInt8) (hb:b.length≤1048576):∃p,Fun Tryz.prog 12 [.sl (.lent false) (b.map kA)] [.sl .own (List.map (PV.int .i64) p)]∧SmL p:=by
 obtain⟨s1,p,c1,hp⟩:=ju b ⟨0,o5 b (min b.length 4000)⟩ hb
 refine⟨p, ?_,hp⟩
 refine fO fV [2] Tryz.func12 ?_
 have cE1:= @ii
 have cM1:= @c1
 refine aQ trivial ?_
 all_goals try(apply aq;repeat' first|exact ao|apply aa|(apply au;intro zb hc)|(apply ar;intro zb)|intro j')<;>try apply aw
def qL (b:List UInt8) (s:Cu):Nat→List (List Int)×Cu
 |0=>([],s)
 |k+1=>((qL b s k).1++[(jF b (gi b (qL b s k).2 5) (kk b (qL b s k).2 5).toNat).1],(jF b (gi b (qL b s k).2 5) (kk b (qL b s k).2 5).toNat).2)
theorem l3L_p {b:List UInt8} {s:Cu}:∀{k:Nat},(qL b s k).1.length=k∧∀l∈(qL b s k).1,l.length≤9
 |0=>by simp[qL]
 |k+1=>by
  obtain⟨h1,h2⟩:=l3L_p (b:=b) (s:=s) (k:=k)
  have q:=iV (b:=b) (s:=(qL b s k).2) (n:=5)
  rw[qL]
  refine⟨by simp[h1],fun l hl=> ?_⟩
  rcases List.mem_append.1 hl with g|g
  ·exact h2 l g
  ·rw[aP]at g;subst g;rw[lA];omega
theorem rX (b:List UInt8) (s:Cu) (hb:b.length≤1048576):∃s' L,CallT Tryz.prog false 54 [.mu true (cF b s)] [some (cF b s')] [.sl .own (List.map (bW false) L)]∧L.length≤5∧∀l∈L,l.length≤9:=by
 have q:=iV (b:=b) (s:=s) (n:=5)
 obtain⟨N,hN⟩:∃N:Nat,kk b s 5=(N:Int):=Int.eq_ofNat_of_zero_le (by omega)
 rw[hN]at q
 generalize hs:gi b s 5=s0 at*
 obtain⟨w1,w2⟩:=l3L_p (b:=b) (s:=s0) (k:=N)
 obtain⟨y,hy⟩:∃y,kk b (qL b s0 N).2 12=y:=⟨_,rfl⟩
 by_cases h:0<N∧y=0
 ·obtain⟨h0,rfl⟩:=h
  obtain⟨s1,p,c1,hp⟩:=ju b (gi b (qL b s0 N).2 12) hb
  refine⟨s1,(qL b s0 N).1.set 0 p, ?_,by rw[List.length_set];omega,fun l hl=> ?_⟩
  ·refine fX fV [2] Tryz.func54 ?_
   have cM1:= @bf;have cM2:= @dT;have cM3:= @bw
   refine aQ (aa @hN @hs) ?_
   all_goals try(apply aq;repeat' first|exact ao|apply aa|(apply au;intro zb hc)|(apply ar;intro zb)|intro j')<;>try apply aw
   refine az (fun ms1 S1=>∃(k:Nat),S1.e 0=.ptr 0 0∧S1.h 0=.live true (cF b (qL b s0 k).2)∧0<S1.n∧OwnL (S1.e 3) S1.h S1.n (bW false) (((qL b s0 k).1).length) ((qL b s0 k).1)∧S1.e 4=.p (.int .i64 (N))∧S1.e 5=.p (.int .i64 (k))∧(k≤N)∧NId (S1.e 3) (.ref 0 0 0)∧ms1=N - k) ((fun(k:Nat)=>N - k) (0)) ?_ ⟨0,dC trivial ?_⟩
   all_goals try(apply aq;repeat' first|exact ao|apply aa|(apply au;intro zb hc)|(apply ar;intro zb)|intro j')<;>try apply aw
   rintro ms1 S1 ⟨k,h1_0,b1_0,l1_0,o1_3,h1_4,h1_5,c1_0,u1_0,hm1⟩
   obtain⟨i1_3,h1_3,b1_3,l1_3⟩:=o1_3.out
   have k1_0:=(u1_0).out h1_3 rfl
   have ni1_3:=bi (x:=i1_3) (n:=S1.n)
   have n0:=bi (x:=0) (n:=S1.n)
   have di1_30:=ds (x:=i1_3) (y:=0)
   have fL1:=(aa h1_0 (aa b1_0 (aa h1_4 (aa h1_5 (aa h1_3 (aa b1_3 (aa ni1_3 (aa n0 di1_30))))))))
   ·obtain⟨v1,v2⟩:=l3L_p (b:=b) (s:=s0) (k:=k)
    have qk:=iV (b:=b) (s:=(qL b s0 k).2) (n:=5)
    by_cases hk:k<N
    ·refine aQ fL1 ?_
     all_goals try(apply aq;repeat' first|exact ao|apply aa|(apply au;intro zb hc)|(apply ar;intro zb)|intro j')<;>try apply aw
     focus
      refine ay ((fun(k:Nat)=>N - k) (k+1)) (dC fL1 ?_) ⟨k+1,dC fL1 ?_⟩
      all_goals try(apply aq;repeat' first|exact ao|apply aa|(apply au;intro zb hc)|(apply ar;intro zb)|intro j')<;>try apply aw
     all_goals(first|(rw[v1,l3L_p.1];done)|skip)
    ·obtain rfl:k=N:=by omega
     have hN0:((0:Int)<(k:Int))=True:=eq_true (by omega)
     have cM4:= @c1
     refine aQ (aa fL1 (aa @hy @hN0)) ?_
     all_goals try(apply aq;repeat' first|exact ao|apply aa|(apply au;intro zb hc)|(apply ar;intro zb)|intro j')<;>try apply aw
     all_goals(first|(exact ah (by simp))|skip)
  ·rcases List.mem_or_eq_of_mem_set hl with g|g
   ·exact w2 l g
   ·rw[g];exact hp.len
 ·by_cases h0:0<N
  ·have f0:(y=0)=False:=eq_false fun e=>h ⟨h0,e⟩
   refine⟨gi b (qL b s0 N).2 12,(qL b s0 N).1, ?_,by omega,w2⟩
   refine fX fV [2] Tryz.func54 ?_
   have cM1:= @bf;have cM2:= @dT;have cM3:= @bw
   refine aQ (aa @hN @hs) ?_
   all_goals try(apply aq;repeat' first|exact ao|apply aa|(apply au;intro zb hc)|(apply ar;intro zb)|intro j')<;>try apply aw
   refine az (fun ms2 S2=>∃(k:Nat),S2.e 0=.ptr 0 0∧S2.h 0=.live true (cF b (qL b s0 k).2)∧0<S2.n∧OwnL (S2.e 3) S2.h S2.n (bW false) (((qL b s0 k).1).length) ((qL b s0 k).1)∧S2.e 4=.p (.int .i64 (N))∧S2.e 5=.p (.int .i64 (k))∧(k≤N)∧NId (S2.e 3) (.ref 0 0 0)∧ms2=N - k) ((fun(k:Nat)=>N - k) (0)) ?_ ⟨0,dC trivial ?_⟩
   all_goals try(apply aq;repeat' first|exact ao|apply aa|(apply au;intro zb hc)|(apply ar;intro zb)|intro j')<;>try apply aw
   rintro ms2 S2 ⟨k,h2_0,b2_0,l2_0,o2_3,h2_4,h2_5,c2_0,u2_0,hm2⟩
   obtain⟨i2_3,h2_3,b2_3,l2_3⟩:=o2_3.out
   have k2_0:=(u2_0).out h2_3 rfl
   have ni2_3:=bi (x:=i2_3) (n:=S2.n)
   have n0:=bi (x:=0) (n:=S2.n)
   have di2_30:=ds (x:=i2_3) (y:=0)
   have fL2:=(aa h2_0 (aa b2_0 (aa h2_4 (aa h2_5 (aa h2_3 (aa b2_3 (aa ni2_3 (aa n0 di2_30))))))))
   ·obtain⟨v1,v2⟩:=l3L_p (b:=b) (s:=s0) (k:=k)
    have qk:=iV (b:=b) (s:=(qL b s0 k).2) (n:=5)
    by_cases hk:k<N
    ·refine aQ fL2 ?_
     all_goals try(apply aq;repeat' first|exact ao|apply aa|(apply au;intro zb hc)|(apply ar;intro zb)|intro j')<;>try apply aw
     focus
      refine ay ((fun(k:Nat)=>N - k) (k+1)) (dC fL2 ?_) ⟨k+1,dC fL2 ?_⟩
      all_goals try(apply aq;repeat' first|exact ao|apply aa|(apply au;intro zb hc)|(apply ar;intro zb)|intro j')<;>try apply aw
     all_goals(first|(rw[v1,l3L_p.1];done)|skip)
    ·obtain rfl:k=N:=by omega
     have hN0:((0:Int)<(k:Int))=True:=eq_true (by omega)
     refine aQ (aa fL2 (aa @hy (aa @f0 @hN0))) ?_
     all_goals try(apply aq;repeat' first|exact ao|apply aa|(apply au;intro zb hc)|(apply ar;intro zb)|intro j')<;>try apply aw
     all_goals(first|(exact ah (by simp))|skip)
  ·obtain rfl:N=0:=by omega
   refine⟨s0,[], ?_,by decide,fun l hl=>by cases hl⟩
   refine fX fV [2] Tryz.func54 ?_
   have cM1:= @bf;have cM2:= @dT;have cM3:= @bw
   refine aQ (aa @hN @hs) ?_
   all_goals try(apply aq;repeat' first|exact ao|apply aa|(apply au;intro zb hc)|(apply ar;intro zb)|intro j')<;>try apply aw
   refine az (fun ms3 S3=>∃(u:Nat),S3.e 0=.ptr 0 0∧S3.h 0=.live true (cF b s0)∧0<S3.n∧OwnL (S3.e 3) S3.h S3.n (bW false) ((([]:List (List Int))).length) (([]:List (List Int)))∧S3.e 4=.p (.int .i64 (0))∧S3.e 5=.p (.int .i64 (0))∧NId (S3.e 3) (.ref 0 0 0)∧ms3=u) ((fun(u:Nat)=>u) (0)) ?_ ⟨0,dC trivial ?_⟩
   all_goals try(apply aq;repeat' first|exact ao|apply aa|(apply au;intro zb hc)|(apply ar;intro zb)|intro j')<;>try apply aw
   rintro ms3 S3 ⟨u,h3_0,b3_0,l3_0,o3_3,h3_4,h3_5,u3_0,hm3⟩
   obtain⟨i3_3,h3_3,b3_3,l3_3⟩:=o3_3.out
   have k3_0:=(u3_0).out h3_3 rfl
   have ni3_3:=bi (x:=i3_3) (n:=S3.n)
   have n0:=bi (x:=0) (n:=S3.n)
   have di3_30:=ds (x:=i3_3) (y:=0)
   have fL3:=(aa h3_0 (aa b3_0 (aa h3_4 (aa h3_5 (aa h3_3 (aa b3_3 (aa ni3_3 (aa n0 di3_30))))))))
   ·refine aQ fL3 ?_
    all_goals try(apply aq;repeat' first|exact ao|apply aa|(apply au;intro zb hc)|(apply ar;intro zb)|intro j')<;>try apply aw
theorem kH (b:List UInt8) (hb:b.length≤1048576):∃L,Fun Tryz.prog 11 [.sl (.lent false) (b.map kA)] [.sl .own (List.map (bW false) L)]∧L.length≤5∧∀l∈L,l.length≤9:=by
 obtain⟨s1,p,c1,hp⟩:=rX b ⟨0,o5 b (min b.length 4000)⟩ hb
 refine⟨p, ?_,hp⟩
 refine fO fV [2] Tryz.func11 ?_
 have cE1:= @ii
 have cM1:= @c1
 refine aQ trivial ?_
 all_goals try(apply aq;repeat' first|exact ao|apply aa|(apply au;intro zb hc)|(apply ar;intro zb)|intro j')<;>try apply aw
theorem yr:∀{T:List (List Int)} {n:Int},(∀l∈T,0<l.length)→∀l∈(cz T n).1,0<l.length
 |[],n,_=>by simp[cz]
 |l::T,n,h=>by
  have h0:=h l List.mem_cons_self
  rw[cz]
  split
  ·intro q hq
   rcases List.mem_cons.1 hq with e|g
   ·rw[e];simp
   ·exact h q (aY _ g)
  ·intro q hq
   rcases List.mem_cons.1 hq with e|g
   ·rw[e,List.length_set];exact h0
   ·exact yr (fun l hl=>h l (aY _ hl)) q g
theorem yO {p:List Int}:∀{k:Nat},(∀l∈(bG p k).1,0<l.length)∧∀l∈(bG p k).2,0<l.length
 |0=>by simp[bG]
 |k+1=>by
  obtain⟨h1,h2⟩:=yO (p:=p) (k:=k)
  rw[bG]
  refine⟨yr h1,fun l hl=> ?_⟩
  simp only at hl
  split at hl
  ·rcases List.mem_append.1 hl with q|q
   ·exact h2 l q
   ·rw[aP]at q;subst q;simp
  ·rcases List.mem_or_eq_of_mem_set hl with q|q
   ·exact h2 l q
   ·rw[q];simp
structure TbL (T:List (List Int)):Prop where
 len:T.length≤9
 row:∀l∈T,l.length≤8
 rg:∀l∈T,∀x∈l, -1≤x∧x≤10
theorem TbL.st {T:List (List Int)} {v:Int} (h:TbL T) (hv: -1≤v∧v≤10):TbL (T.set 0 ((T.getD 0 []).set 0 v)):=by
 refine⟨by rw[List.length_set];exact h.len,fun l hl=> ?_,fun l hl x hx=> ?_⟩
 ·rcases List.mem_or_eq_of_mem_set hl with g|g
  ·exact h.row l g
  ·by_cases h0:0<T.length
   ·rw[g,List.length_set];exact h.row _ (aF h0)
   ·rw[ai (show T.length=0 by omega)]at hl;cases hl
 ·rcases List.mem_or_eq_of_mem_set hl with g|g
  ·exact h.rg l g x hx
  ·subst g
   rcases List.mem_or_eq_of_mem_set hx with g|g
   ·by_cases h0:0<T.length
    ·exact h.rg _ (aF h0) x g
    ·rw[ai (show T.length=0 by omega)]at hl;cases hl
   ·omega
theorem TbL.ap {T:List (List Int)} (h:TbL T) (h8:T.length≤8):TbL (T++[[]]):=by
 refine⟨by rw[ak,List.length_singleton];omega,fun l hl=> ?_,fun l hl x hx=> ?_⟩
 ·rcases List.mem_append.1 hl with g|g
  ·exact h.row l g
  ·rw[aP]at g;subst g;simp
 ·rcases List.mem_append.1 hl with g|g
  ·exact h.rg l g x hx
  ·rw[aP]at g;subst g;cases hx
theorem A1:Blk.deep false [DC.row 0] [some []]=dk (PV.int .i64) false [[]]:=rfl
def fU:FuncId→List Bool:=fun f=>if f=152 then[true]else if f=110 then[true]else if f=108 then[true]else if f=112 then[true]else if f=56 then[true]else if f=4294967297 then[true,false,false,false]else[]
theorem Cn {f:FuncId}:fU f=if f=152 then[true]else if f=110 then[true]else if f=108 then[true]else if f=112 then[true]else if f=56 then[true]else if f=4294967297 then[true,false,false,false]else[]:=_root_.id rfl
theorem zL:gk fU=false∧gG fU=true∧gF fU=false∧gE fU=false∧gH fU=false:=⟨rfl,rfl,rfl,rfl,rfl⟩
attribute [go_sem] Cn zL
theorem p9 (b:List UInt8) (s:Cu) (hb:b.length≤1048576):∃s' T,CallT Tryz.prog false 56 [.mu true (cF b s)] [some (cF b s')] [.dl (List.map (List.map (PV.int .i64)) T)]∧TbL T:=by
 obtain⟨s1,p,c1,hp⟩:=mX b s hb
 obtain⟨a1,a2,a3,a4,a5,a6,a7,a8⟩:=qQ hp
 have p8:=(lQ hp).1
 obtain⟨n1,n2⟩:=yO (p:=p) (k:=p.length)
 have t1:TbL (bG p p.length).1:=⟨by omega,a3,fun l hl x hx=>by have:=a7 l hl x hx;omega⟩
 have t2:TbL (bG p p.length).2:=⟨by omega,a4,fun l hl x hx=>by have:=a8 l hl x hx;omega⟩
 have ci:=fun m0:Bool=>bt (m0:=m0) p p8
 generalize hA:(bG p p.length).1=A at*
 generalize hB:(bG p p.length).2=B at*
 obtain⟨x,hx⟩:∃x,kk b s1 2=x:=⟨_,rfl⟩
 generalize hs2:gi b s1 2=s2 at*
 by_cases h1:x=0
 ·subst h1
  by_cases h0:B.length=0
  ·obtain rfl:B=[]:=ai h0
   obtain⟨z,hz⟩:∃z,kk b s2 14=z:=⟨_,rfl⟩
   by_cases h3:z=0
   ·subst h3
    obtain⟨T9,hT⟩:∃T9,([]:List (List Int))++[[]]=T9:=⟨_,rfl⟩
    refine⟨gi b s2 14,T9, ?_,hT▸t2.ap (by decide)⟩
    refine fX fU [2] Tryz.func56 ?_
    have cE1:= @bt;have cM1:= @bw;have cM2:= @bf;have cD1:=iE [false,false,false,false,true,false,true] [(0,4),(1,4),(2,4)]
    have cE1:= @ci;have cM3:= @c1
    refine aQ (aa @hx (aa @hs2 (aa @hz @A1))) ?_
    all_goals try(apply aq;repeat' first|exact ao|apply aa|(apply au;intro zb hc)|(apply ar;intro zb)|intro j')<;>try apply aw
    all_goals(first|(rw[←hT];rfl)|(rw[←hT];simp;done)|skip)
   ·have f3:(z=0)=False:=eq_false h3
    refine⟨gi b s2 14,[], ?_,t2⟩
    refine fX fU [2] Tryz.func56 ?_
    have cE1:= @bt;have cM1:= @bw;have cM2:= @bf;have cD1:=iE [false,false,false,false,true,false,true] [(0,4),(1,4),(2,4)]
    have cE1:= @ci;have cM3:= @c1
    refine aQ (aa @hx (aa @hs2 (aa @hz @f3))) ?_
    all_goals try(apply aq;repeat' first|exact ao|apply aa|(apply au;intro zb hc)|(apply ar;intro zb)|intro j')<;>try apply aw
    all_goals(first|(rw[ah (by simp)];done)|skip)
  ·have hn:=n2 _ (aF (l:=B) (i:=0) (d:=[]) (by omega))
   have hl0:((0:Int)<(B.length:Int))=True:=eq_true (by omega)
   obtain⟨y,hy⟩:∃y,kk b s2 12=y:=⟨_,rfl⟩
   generalize hs3:gi b s2 12=s3 at*
   by_cases h2:y=0
   ·subst h2
    have qv:=iV (b:=b) (s:=s3) (n:=10)
    obtain⟨v,hv⟩:∃v,kk b s3 10=v:=⟨_,rfl⟩
    rw[hv]at qv
    generalize hs4:gi b s3 10=s4 at*
    obtain⟨z,hz⟩:∃z,kk b s4 14=z:=⟨_,rfl⟩
    by_cases h3:z=0
    ·subst h3
     refine⟨gi b s4 14,B.set 0 ((B.getD 0 []).set 0 v)++[[]], ?_,(t2.st (by omega)).ap (by rw[List.length_set];omega)⟩
     refine fX fU [2] Tryz.func56 ?_
     have cE1:= @bt;have cM1:= @bw;have cM2:= @bf;have cD1:=iE [false,false,false,false,true,false,true] [(0,4),(1,4),(2,4)]
     have cE1:= @ci;have cM3:= @c1
     refine aQ (aa @hx (aa @hs2 (aa @hl0 (aa @hy (aa @hs3 (aa @hv (aa @hs4 (aa @hz @A1)))))))) ?_
     all_goals try(apply aq;repeat' first|exact ao|apply aa|(apply au;intro zb hc)|(apply ar;intro zb)|intro j')<;>try apply aw
     all_goals(first|(rw[ah (by simp)];done)|skip)
    ·have f3:(z=0)=False:=eq_false h3
     refine⟨gi b s4 14,B.set 0 ((B.getD 0 []).set 0 v), ?_,t2.st (by omega)⟩
     refine fX fU [2] Tryz.func56 ?_
     have cE1:= @bt;have cM1:= @bw;have cM2:= @bf;have cD1:=iE [false,false,false,false,true,false,true] [(0,4),(1,4),(2,4)]
     have cE1:= @ci;have cM3:= @c1
     refine aQ (aa @hx (aa @hs2 (aa @hl0 (aa @hy (aa @hs3 (aa @hv (aa @hs4 (aa @hz @f3)))))))) ?_
     all_goals try(apply aq;repeat' first|exact ao|apply aa|(apply au;intro zb hc)|(apply ar;intro zb)|intro j')<;>try apply aw
     all_goals(first|(rw[ah (by simp)];done)|skip)
   ·have f2:(y=0)=False:=eq_false h2
    obtain⟨z,hz⟩:∃z,kk b s3 14=z:=⟨_,rfl⟩
    by_cases h3:z=0
    ·subst h3
     refine⟨gi b s3 14,B++[[]], ?_,t2.ap a2⟩
     refine fX fU [2] Tryz.func56 ?_
     have cE1:= @bt;have cM1:= @bw;have cM2:= @bf;have cD1:=iE [false,false,false,false,true,false,true] [(0,4),(1,4),(2,4)]
     have cE1:= @ci;have cM3:= @c1
     refine aQ (aa @hx (aa @hs2 (aa @hl0 (aa @hy (aa @f2 (aa @hs3 (aa @hz @A1))))))) ?_
     all_goals try(apply aq;repeat' first|exact ao|apply aa|(apply au;intro zb hc)|(apply ar;intro zb)|intro j')<;>try apply aw
     all_goals(first|(rw[ah (by simp)];done)|skip)
    ·have f3:(z=0)=False:=eq_false h3
     refine⟨gi b s3 14,B, ?_,t2⟩
     refine fX fU [2] Tryz.func56 ?_
     have cE1:= @bt;have cM1:= @bw;have cM2:= @bf;have cD1:=iE [false,false,false,false,true,false,true] [(0,4),(1,4),(2,4)]
     have cE1:= @ci;have cM3:= @c1
     refine aQ (aa @hx (aa @hs2 (aa @hl0 (aa @hy (aa @f2 (aa @hs3 (aa @hz @f3))))))) ?_
     all_goals try(apply aq;repeat' first|exact ao|apply aa|(apply au;intro zb hc)|(apply ar;intro zb)|intro j')<;>try apply aw
     all_goals(first|(rw[ah (by simp)];done)|skip)
 ·have f1:(x=0)=False:=eq_false h1
  by_cases h0:A.length=0
  ·obtain rfl:A=[]:=ai h0
   obtain⟨z,hz⟩:∃z,kk b s2 14=z:=⟨_,rfl⟩
   by_cases h3:z=0
   ·subst h3
    obtain⟨T9,hT⟩:∃T9,([]:List (List Int))++[[]]=T9:=⟨_,rfl⟩
    refine⟨gi b s2 14,T9, ?_,hT▸t1.ap (by decide)⟩
    refine fX fU [2] Tryz.func56 ?_
    have cE1:= @bt;have cM1:= @bw;have cM2:= @bf;have cD1:=iE [false,false,false,false,true,false,true] [(0,4),(1,4),(2,4)]
    have cE1:= @ci;have cM3:= @c1
    refine aQ (aa @hx (aa @f1 (aa @hs2 (aa @hz @A1)))) ?_
    all_goals try(apply aq;repeat' first|exact ao|apply aa|(apply au;intro zb hc)|(apply ar;intro zb)|intro j')<;>try apply aw
    all_goals(first|(rw[←hT];rfl)|(rw[←hT];simp;done)|skip)
   ·have f3:(z=0)=False:=eq_false h3
    refine⟨gi b s2 14,[], ?_,t1⟩
    refine fX fU [2] Tryz.func56 ?_
    have cE1:= @bt;have cM1:= @bw;have cM2:= @bf;have cD1:=iE [false,false,false,false,true,false,true] [(0,4),(1,4),(2,4)]
    have cE1:= @ci;have cM3:= @c1
    refine aQ (aa @hx (aa @f1 (aa @hs2 (aa @hz @f3)))) ?_
    all_goals try(apply aq;repeat' first|exact ao|apply aa|(apply au;intro zb hc)|(apply ar;intro zb)|intro j')<;>try apply aw
    all_goals(first|(rw[ah (by simp)];done)|skip)
  ·have hn:=n1 _ (aF (l:=A) (i:=0) (d:=[]) (by omega))
   have hl0:((0:Int)<(A.length:Int))=True:=eq_true (by omega)
   obtain⟨y,hy⟩:∃y,kk b s2 12=y:=⟨_,rfl⟩
   generalize hs3:gi b s2 12=s3 at*
   by_cases h2:y=0
   ·subst h2
    have qv:=iV (b:=b) (s:=s3) (n:=10)
    obtain⟨v,hv⟩:∃v,kk b s3 10=v:=⟨_,rfl⟩
    rw[hv]at qv
    generalize hs4:gi b s3 10=s4 at*
    obtain⟨z,hz⟩:∃z,kk b s4 14=z:=⟨_,rfl⟩
    by_cases h3:z=0
    ·subst h3
     refine⟨gi b s4 14,A.set 0 ((A.getD 0 []).set 0 v)++[[]], ?_,(t1.st (by omega)).ap (by rw[List.length_set];omega)⟩
     refine fX fU [2] Tryz.func56 ?_
     have cE1:= @bt;have cM1:= @bw;have cM2:= @bf;have cD1:=iE [false,false,false,false,true,false,true] [(0,4),(1,4),(2,4)]
     have cE1:= @ci;have cM3:= @c1
     refine aQ (aa @hx (aa @f1 (aa @hs2 (aa @hl0 (aa @hy (aa @hs3 (aa @hv (aa @hs4 (aa @hz @A1))))))))) ?_
     all_goals try(apply aq;repeat' first|exact ao|apply aa|(apply au;intro zb hc)|(apply ar;intro zb)|intro j')<;>try apply aw
     all_goals(first|(rw[ah (by simp)];done)|skip)
    ·have f3:(z=0)=False:=eq_false h3
     refine⟨gi b s4 14,A.set 0 ((A.getD 0 []).set 0 v), ?_,t1.st (by omega)⟩
     refine fX fU [2] Tryz.func56 ?_
     have cE1:= @bt;have cM1:= @bw;have cM2:= @bf;have cD1:=iE [false,false,false,false,true,false,true] [(0,4),(1,4),(2,4)]
     have cE1:= @ci;have cM3:= @c1
     refine aQ (aa @hx (aa @f1 (aa @hs2 (aa @hl0 (aa @hy (aa @hs3 (aa @hv (aa @hs4 (aa @hz @f3))))))))) ?_
     all_goals try(apply aq;repeat' first|exact ao|apply aa|(apply au;intro zb hc)|(apply ar;intro zb)|intro j')<;>try apply aw
     all_goals(first|(rw[ah (by simp)];done)|skip)
   ·have f2:(y=0)=False:=eq_false h2
    obtain⟨z,hz⟩:∃z,kk b s3 14=z:=⟨_,rfl⟩
    by_cases h3:z=0
    ·subst h3
     refine⟨gi b s3 14,A++[[]], ?_,t1.ap a1⟩
     refine fX fU [2] Tryz.func56 ?_
     have cE1:= @bt;have cM1:= @bw;have cM2:= @bf;have cD1:=iE [false,false,false,false,true,false,true] [(0,4),(1,4),(2,4)]
     have cE1:= @ci;have cM3:= @c1
     refine aQ (aa @hx (aa @f1 (aa @hs2 (aa @hl0 (aa @hy (aa @f2 (aa @hs3 (aa @hz @A1)))))))) ?_
     all_goals try(apply aq;repeat' first|exact ao|apply aa|(apply au;intro zb hc)|(apply ar;intro zb)|intro j')<;>try apply aw
     all_goals(first|(rw[ah (by simp)];done)|skip)
    ·have f3:(z=0)=False:=eq_false h3
     refine⟨gi b s3 14,A, ?_,t1⟩
     refine fX fU [2] Tryz.func56 ?_
     have cE1:= @bt;have cM1:= @bw;have cM2:= @bf;have cD1:=iE [false,false,false,false,true,false,true] [(0,4),(1,4),(2,4)]
     have cE1:= @ci;have cM3:= @c1
     refine aQ (aa @hx (aa @f1 (aa @hs2 (aa @hl0 (aa @hy (aa @f2 (aa @hs3 (aa @hz @f3)))))))) ?_
     all_goals try(apply aq;repeat' first|exact ao|apply aa|(apply au;intro zb hc)|(apply ar;intro zb)|intro j')<;>try apply aw
     all_goals(first|(rw[ah (by simp)];done)|skip)
theorem j5 (b:List UInt8) (hb:b.length≤1048576):∃T,Fun Tryz.prog 13 [.sl (.lent false) (b.map kA)] [.dl (List.map (List.map (PV.int .i64)) T)]∧TbL T:=by
 obtain⟨s1,T,c1,hp⟩:=p9 b ⟨0,o5 b (min b.length 4000)⟩ hb
 refine⟨T, ?_,hp⟩
 refine fO fU [2] Tryz.func13 ?_
 have cE1:= @ii
 have cM1:= @c1
 refine aQ trivial ?_
 all_goals try(apply aq;repeat' first|exact ao|apply aa|(apply au;intro zb hc)|(apply ar;intro zb)|intro j')<;>try apply aw
def c6 (v:Int):List Int→Int
 |[]=>0
 |w::p=>dM (decide (w<v))+c6 v p
def bS:List Int→List Int
 |[]=>[]
 |v::p=>c6 v p::bS p
theorem jC:∀p:List Int,(bS p).length=p.length
 |[]=>rfl
 |_::p=>by simp[bS,jC p]
theorem rA (v:Int):∀p:List Int,0≤c6 v p∧c6 v p≤p.length
 |[]=>by simp[c6]
 |w::p=>by
  have:=rA v p;have:=rH (decide (w<v))
  simp only[c6,aC];omega
theorem oC:∀(p:List Int) (k:Nat),0≤(bS p).getD k 0∧(bS p).getD k 0≤p.length
 |[],k=>by simp[bS]
 |v::p,0=>by have:=rA v p;simp only[bS,List.getD_cons_zero,aC];omega
 |v::p,k+1=>by have:=oC p k;simp only[bS,List.getD_cons_succ,aC];omega
theorem jw {m0:Bool} (p:List Int) (hl:p.length≤1048576):Fun Tryz.prog 35 [(.sl (.lent m0) (List.map (PV.int .i64) (p)))] [(.sl .own (List.map (PV.int .i64) ((if al p then bS p else[]))))]:=by
 refine fO bA [2] Tryz.func35 ?_
 have cE1:= @eC;have cE2:= @aD;have cD1:=iE [false,false,false,false,false,false,false,false,false,false,true,false,false] [(0,10)]
 refine dE trivial ?_
 all_goals try(apply aq;repeat' first|exact ao|apply aa|(apply au;intro zb hc;repeat (have zc:=zb.1;replace zb:=zb.2))|(apply ar;intro zb)|intro j')<;>try apply aw
 refine az (fun ms1 S1=>∃(k:Nat) (out:List Int),S1.e 0=.p (.sl (.lent m0) (List.map (PV.int .i64) (p)))∧OwnL (S1.e 3) S1.h S1.n (PV.int .i64) ((out).length) (out)∧S1.e 4=.p (.int .i64 (k))∧(k≤p.length)∧(0<k→al p=true)∧(bS p=out++bS (p.drop k))∧(out.length=k)∧ms1=p.length - k) ((fun(k:Nat) (out:List Int)=>p.length - k) (0) ([])) ?_ ⟨0,[],kj trivial ?_⟩
 all_goals try(apply aq;repeat' first|exact ao|apply aa|(apply au;intro zb hc;repeat (have zc:=zb.1;replace zb:=zb.2))|(apply ar;intro zb)|intro j')<;>try apply aw
 rintro ms1 S1 ⟨k,out,h1_0,o1_3,h1_4,c1_0,c1_1,c1_2,c1_3,hm1⟩
 obtain⟨i1_3,h1_3,b1_3,l1_3⟩:=o1_3.out
 have ni1_3:=bi (x:=i1_3) (n:=S1.n)
 have fL1:=(aa h1_0 (aa h1_4 (aa h1_3 (aa b1_3 ni1_3))))
 refine aQ fL1 ?_
 all_goals try(apply aq;repeat' first|exact ao|apply aa|(apply au;intro zb hc;repeat (have zc:=zb.1;replace zb:=zb.2))|(apply ar;intro zb)|intro j')<;>try apply aw
 ·refine az (fun ms2 S2=>∃(i:Nat) (n:Int),S2.e 0=.p (.sl (.lent m0) (List.map (PV.int .i64) (p)))∧S2.e 3=.ref i1_3 0 (out).length∧S2.h i1_3=.live false (List.map (PV.int .i64) (out))∧S2.e 4=.p (.int .i64 (k))∧S2.e 5=.p (.int .i64 (n))∧S2.e 6=.p (.int .i64 (i))∧(k<i)∧(i≤p.length)∧(0≤n)∧(n≤i)∧(n+c6 (p.getD k 0) (p.drop i)=c6 (p.getD k 0) (p.drop (k+1)))∧S1.n≤S2.n∧ms2=p.length - i) ((fun(i:Nat) (n:Int)=>p.length - i) (k+1) (0)) ?_ ⟨k+1,0,dI fL1 ?_⟩
  all_goals try(apply aq;repeat' first|exact ao|apply aa|(apply au;intro zb hc;repeat (have zc:=zb.1;replace zb:=zb.2))|(apply ar;intro zb)|intro j')<;>try apply aw
  rintro ms2 S2 ⟨i,n,h2_0,h2_3,b2_3,h2_4,h2_5,h2_6,c2_0,c2_1,c2_2,c2_3,c2_4,u2_0,hm2⟩
  have ni1_3:=bi (x:=i1_3) (n:=S2.n)
  have fL2:=(aa h2_0 (aa h2_3 (aa b2_3 (aa h2_4 (aa h2_5 (aa h2_6 ni1_3))))))
  refine dE fL2 ?_
  all_goals try(apply aq;repeat' first|exact ao|apply aa|(apply au;intro zb hc;repeat (have zc:=zb.1;replace zb:=zb.2))|(apply ar;intro zb)|intro j')<;>try apply aw
  all_goals have hb:=rH (decide (p.getD i 0<p.getD k 0))
  all_goals try exact iF
  ·focus
    refine ay ((fun(i:Nat) (n:Int)=>p.length - i) (i+1) (n+dM (decide (p.getD i 0<p.getD k 0)))) (dC fL2 ?_) ⟨i+1,n+dM (decide (p.getD i 0<p.getD k 0)),dC fL2 ?_⟩
    all_goals try(apply aq;repeat' first|exact ao|apply aa|(apply au;intro zb hc;repeat (have zc:=zb.1;replace zb:=zb.2))|(apply ar;intro zb)|intro j')<;>try apply aw
   rw[←c2_4,bH hc,c6,Int.add_assoc]
  ·focus
    refine ay ((fun(k:Nat) (out:List Int)=>p.length - k) (k+1) (out++[n])) (dC fL2 ?_) ⟨k+1,out++[n],dC fL2 ?_⟩
    all_goals try(apply aq;repeat' first|exact ao|apply aa|(apply au;intro zb hc;repeat (have zc:=zb.1;replace zb:=zb.2))|(apply ar;intro zb)|intro j')<;>try apply aw
   ·intro _;assumption
   ·rw[c1_2,bH (by omega),bS,←c2_4,aL (by omega:p.length≤i),c6,Int.add_zero]
 ·have:k=0:=by
   rcases Nat.eq_zero_or_pos k with h|h
   ·exact h
   ·rw[c1_1 h]at hc;cases hc
  rw[ai (by omega:out.length=0)];simp[hc]
 ·have hp:al p=true:=by
   rcases Nat.eq_zero_or_pos k with h|h
   ·rw[ai (by omega:p.length=0)];rfl
   ·exact c1_1 h
  rw[if_pos hp,c1_2,aL (by omega),bS,aN]
theorem oM {m0:Bool} (p:List Int) (hl:p.length≤1048576):Fun Tryz.prog 95 [(.sl (.lent m0) (List.map (PV.int .i64) (p)))] [(.sl .own (List.map (PV.int .i64) (bS p)))]:=by
 refine fO bA [2] Tryz.func95 ?_
 refine aQ trivial ?_
 all_goals try(apply aq;repeat' first|exact ao|apply aa|(apply au;intro zb hc;repeat (have zc:=zb.1;replace zb:=zb.2))|(apply ar;intro zb)|intro j')<;>try apply aw
 refine az (fun ms1 S1=>∃(k:Nat) (out:List Int),S1.e 0=.p (.sl (.lent m0) (List.map (PV.int .i64) (p)))∧S1.e 10=.p (.sl (.lent m0) (List.map (PV.int .i64) (p)))∧S1.e 11=.p (.int .i64 (p.length))∧OwnL (S1.e 3) S1.h S1.n (PV.int .i64) ((out).length) (out)∧S1.e 12=.p (.int .i64 (k))∧(k≤p.length)∧(bS p=out++bS (p.drop k))∧(out.length=k)∧ms1=p.length - k) ((fun(k:Nat) (out:List Int)=>p.length - k) (0) ([])) ?_ ⟨0,[],kj trivial ?_⟩
 all_goals try(apply aq;repeat' first|exact ao|apply aa|(apply au;intro zb hc;repeat (have zc:=zb.1;replace zb:=zb.2))|(apply ar;intro zb)|intro j')<;>try apply aw
 rintro ms1 S1 ⟨k,out,h1_0,h1_10,h1_11,o1_3,h1_12,c1_0,c1_1,c1_2,hm1⟩
 obtain⟨i1_3,h1_3,b1_3,l1_3⟩:=o1_3.out
 have ni1_3:=bi (x:=i1_3) (n:=S1.n)
 have fL1:=(aa h1_0 (aa h1_10 (aa h1_11 (aa h1_12 (aa h1_3 (aa b1_3 ni1_3))))))
 refine aQ fL1 ?_
 all_goals try(apply aq;repeat' first|exact ao|apply aa|(apply au;intro zb hc;repeat (have zc:=zb.1;replace zb:=zb.2))|(apply ar;intro zb)|intro j')<;>try apply aw
 ·refine az (fun ms2 S2=>∃(i:Nat) (n:Int),S2.e 0=.p (.sl (.lent m0) (List.map (PV.int .i64) (p)))∧S2.e 10=.p (.sl (.lent m0) (List.map (PV.int .i64) (p)))∧S2.e 11=.p (.int .i64 (p.length))∧S2.e 3=.ref i1_3 0 (out).length∧S2.h i1_3=.live false (List.map (PV.int .i64) (out))∧S2.e 12=.p (.int .i64 (k))∧S2.e 5=.p (.int .i64 (p.getD k 0))∧S2.e 6=.p (.int .i64 (n))∧S2.e 20=.p (.sl (.lent m0) (List.map (PV.int .i64) (p.drop (k+1))))∧S2.e 21=.p (.int .i64 ((p.drop (k+1)).length))∧S2.e 22=.p (.int .i64 (i))∧(i≤(p.drop (k+1)).length)∧(0≤n)∧(n≤i)∧(n+c6 (p.getD k 0) ((p.drop (k+1)).drop i)=c6 (p.getD k 0) (p.drop (k+1)))∧S1.n≤S2.n∧ms2=(p.drop (k+1)).length - i) ((fun(i:Nat) (n:Int)=>(p.drop (k+1)).length - i) (0) (0)) ?_ ⟨0,0,dI fL1 ?_⟩
  all_goals try(apply aq;repeat' first|exact ao|apply aa|(apply au;intro zb hc;repeat (have zc:=zb.1;replace zb:=zb.2))|(apply ar;intro zb)|intro j')<;>try apply aw
  rintro ms2 S2 ⟨i,n,h2_0,h2_10,h2_11,h2_3,b2_3,h2_12,h2_5,h2_6,h2_20,h2_21,h2_22,c2_0,c2_1,c2_2,c2_3,u2_0,hm2⟩
  have ni1_3:=bi (x:=i1_3) (n:=S2.n)
  have fL2:=(aa h2_0 (aa h2_10 (aa h2_11 (aa h2_3 (aa b2_3 (aa h2_12 (aa h2_5 (aa h2_6 (aa h2_20 (aa h2_21 (aa h2_22 ni1_3)))))))))))
  refine dE fL2 ?_
  all_goals try(apply aq;repeat' first|exact ao|apply aa|(apply au;intro zb hc;repeat (have zc:=zb.1;replace zb:=zb.2))|(apply ar;intro zb)|intro j')<;>try apply aw
  all_goals have hd:(p.drop (k+1)).length=p.length - (k+1):=by simp
  all_goals try exact iF
  ·focus
    refine ay ((fun(i:Nat) (n:Int)=>(p.drop (k+1)).length - i) (i+1) (n+1)) (dC fL2 ?_) ⟨i+1,n+1,dC fL2 ?_⟩
    all_goals try(apply aq;repeat' first|exact ao|apply aa|(apply au;intro zb hc;repeat (have zc:=zb.1;replace zb:=zb.2))|(apply ar;intro zb)|intro j')<;>try apply aw
   rw[←c2_3,bH (by assumption:i<(p.drop (k+1)).length),c6,dM,decide_eq_true hc,if_pos rfl,Int.add_assoc]
  ·focus
    refine ay ((fun(i:Nat) (n:Int)=>(p.drop (k+1)).length - i) (i+1) (n)) (dC fL2 ?_) ⟨i+1,n,dC fL2 ?_⟩
    all_goals try(apply aq;repeat' first|exact ao|apply aa|(apply au;intro zb hc;repeat (have zc:=zb.1;replace zb:=zb.2))|(apply ar;intro zb)|intro j')<;>try apply aw
   rw[←c2_3,bH (by assumption:i<(p.drop (k+1)).length),c6,dM,decide_eq_false (by omega),if_neg (by decide),Int.zero_add]
  ·focus
    refine ay ((fun(k:Nat) (out:List Int)=>p.length - k) (k+1) (out++[n])) (dC fL2 ?_) ⟨k+1,out++[n],dC fL2 ?_⟩
    all_goals try(apply aq;repeat' first|exact ao|apply aa|(apply au;intro zb hc;repeat (have zc:=zb.1;replace zb:=zb.2))|(apply ar;intro zb)|intro j')<;>try apply aw
   rw[c1_1,bH (by omega:k<p.length),bS,←c2_3,aL (by omega:(p.drop (k+1)).length≤i),c6,Int.add_zero]
 ·rw[c1_1,aL (by omega),bS,aN]
def ou (n:Nat):List Int:=(List.range n).map fun i:Nat=>(i:Int)+1
theorem vN {n:Nat}:ou (n+1)=ou n++[(n:Int)+1]:=by simp[ou,List.range_succ]
theorem gD {n:Nat}:(ou n).length=n:=by simp[ou]
theorem ph (n:Int) (h0:0≤n) (h1:n≤1099511627776):Fun Tryz.prog 176 [(.int .i64 (n))] [(.sl .own (List.map (PV.int .i64) (ou n.toNat)))]:=by
 refine fO bA [2] Tryz.func176 ?_
 refine dE trivial ?_
 all_goals try(apply aq;repeat' first|exact ao|apply aa|(apply au;intro zb hc)|(apply ar;intro zb)|intro j')<;>try apply aw
 refine az (fun ms1 S1=>∃(k:Nat),S1.e 0=.p (.int .i64 (n))∧OwnL (S1.e 3) S1.h S1.n (PV.int .i64) ((ou k).length) (ou k)∧S1.e 6=.p (.int .i64 (n))∧S1.e 7=.p (.int .i64 (k))∧((k:Int)≤n)∧ms1=n.toNat - k) ((fun(k:Nat)=>n.toNat - k) (0)) ?_ ⟨0,dI trivial ?_⟩
 all_goals try(apply aq;repeat' first|exact ao|apply aa|(apply au;intro zb hc)|(apply ar;intro zb)|intro j')<;>try apply aw
 rintro ms1 S1 ⟨k,h1_0,o1_3,h1_6,h1_7,c1_0,hm1⟩
 obtain⟨i1_3,h1_3,b1_3,l1_3⟩:=o1_3.out
 have ni1_3:=bi (x:=i1_3) (n:=S1.n)
 have fL1:=(aa h1_0 (aa h1_6 (aa h1_7 (aa h1_3 (aa b1_3 ni1_3)))))
 refine dE fL1 ?_
 all_goals try(apply aq;repeat' first|exact ao|apply aa|(apply au;intro zb hc)|(apply ar;intro zb)|intro j')<;>try apply aw
 all_goals have hl:=gD (n:=k)
 all_goals try exact iF
 ·focus
   refine ay ((fun(k:Nat)=>n.toNat - k) (k+1)) (dC fL1 ?_) ⟨k+1,dC fL1 ?_⟩
   all_goals try(apply aq;repeat' first|exact ao|apply aa|(apply au;intro zb hc)|(apply ar;intro zb)|intro j')<;>try apply aw
  all_goals simp[vN,gD]
 ·rw[show k=n.toNat by omega]
theorem bJ (n:Int) (h0:0≤n) (h1:n≤8):Fun Tryz.prog 123 [(.int .i64 (n))] [(.sl .own (List.map (PV.int .i64) (ou n.toNat)))]:=by
 refine fO bA [2] Tryz.func123 ?_
 refine dE trivial ?_
 all_goals try(apply aq;repeat' first|exact ao|apply aa|(apply au;intro zb hc)|(apply ar;intro zb)|intro j')<;>try apply aw
 refine az (fun ms1 S1=>∃(k:Nat),S1.e 0=.p (.int .i64 (n))∧OwnL (S1.e 3) S1.h S1.n (PV.int .i64) ((ou k).length) (ou k)∧S1.e 4=.p (.int .i64 ((k+1)))∧((k:Int)≤n)∧ms1=n.toNat - k) ((fun(k:Nat)=>n.toNat - k) (0)) ?_ ⟨0,dI trivial ?_⟩
 all_goals try(apply aq;repeat' first|exact ao|apply aa|(apply au;intro zb hc)|(apply ar;intro zb)|intro j')<;>try apply aw
 rintro ms1 S1 ⟨k,h1_0,o1_3,h1_4,c1_0,hm1⟩
 obtain⟨i1_3,h1_3,b1_3,l1_3⟩:=o1_3.out
 have ni1_3:=bi (x:=i1_3) (n:=S1.n)
 have fL1:=(aa h1_0 (aa h1_4 (aa h1_3 (aa b1_3 ni1_3))))
 refine dE fL1 ?_
 all_goals try(apply aq;repeat' first|exact ao|apply aa|(apply au;intro zb hc)|(apply ar;intro zb)|intro j')<;>try apply aw
 all_goals have hl:=gD (n:=k)
 all_goals try exact iF
 ·focus
   refine ay ((fun(k:Nat)=>n.toNat - k) (k+1)) (dC fL1 ?_) ⟨k+1,dC fL1 ?_⟩
   all_goals try(apply aq;repeat' first|exact ao|apply aa|(apply au;intro zb hc)|(apply ar;intro zb)|intro j')<;>try apply aw
  all_goals simp[vN,gD]
 ·rw[show k=n.toNat by omega]
def vS (v:Int):List Int→Int
 |[]=>0
 |w::l=>dM (decide (v<w))+vS v l
def fv (p:List Int):Nat→Int
 |0=>0
 |k+1=>fv p k+vS (p.getD k 0) (p.take k)
theorem vR {v x:Int}:∀{l:List Int},vS v (l++[x])=vS v l+dM (decide (v<x))
 |[]=>by simp[vS]
 |w::l=>by rw[List.cons_append,vS,vS,vR];omega
theorem yW {v:Int}:∀{l:List Int},0≤vS v l∧vS v l≤l.length
 |[]=>by simp[vS]
 |w::l=>by have:=yW (v:=v) (l:=l);have:=rH (decide (v<w));rw[vS,aC];omega
theorem DE {p:List Int}:∀{k:Nat},k≤p.length→0≤fv p k∧fv p k≤(p.length*k:Nat)
 |0,_=>by simp[fv]
 |k+1,h=>by
  have ih:=DE (p:=p) (k:=k) (by omega)
  have h1:=yW (v:=p.getD k 0) (l:=p.take k)
  rw[aV]at h1
  rw[fv,Nat.mul_succ];omega
theorem dB {m0:Bool} (p:List Int) (hp:p.length≤1048576):Fun Tryz.prog 28 [(.sl (.lent m0) (List.map (PV.int .i64) (p)))] [(.int .i64 ((if al p then fv p p.length else -1)))]:=by
 by_cases h:al p=true
 ·rw[if_pos h]
  have h8:p.length≤8:=by simp[al]at h;exact h.1
  have hb:∀k,0≤fv p k∧fv p k≤8*(k:Int):=fun k=>by
   induction k with
   |zero=>simp[fv]
   |succ k ih=>
    have:=yW (v:=p.getD k 0) (l:=p.take k)
    rw[aV]at this
    rw[fv];omega
  refine fO bA [2] Tryz.func28 ?_
  have cE1:= @eC;have cE2:= @aD;have cD1:=iE [false,false,false,false,false,false,false,false,false,false,true,false,false] [(0,10)]
  refine aQ @h ?_
  all_goals try(apply aq;repeat' first|exact ao|apply aa|(apply au;intro zb hc)|(apply ar;intro zb)|intro j')<;>try apply aw
  refine az (fun ms1 S1=>∃(k:Nat),S1.e 0=.p (.sl (.lent m0) (List.map (PV.int .i64) (p)))∧S1.e 3=.p (.int .i64 (fv p k))∧S1.e 4=.p (.int .i64 (k))∧(k≤p.length)∧ms1=p.length - k) ((fun(k:Nat)=>p.length - k) (0)) ?_ ⟨0,dC trivial ?_⟩
  all_goals try(apply aq;repeat' first|exact ao|apply aa|(apply au;intro zb hc)|(apply ar;intro zb)|intro j')<;>try apply aw
  rintro ms1 S1 ⟨k,h1_0,h1_3,h1_4,c1_0,hm1⟩
  have fL1:=(aa h1_0 (aa h1_3 h1_4))
  ·have b1:=hb k
   refine aQ fL1 ?_
   all_goals try(apply aq;repeat' first|exact ao|apply aa|(apply au;intro zb hc)|(apply ar;intro zb)|intro j')<;>try apply aw
   ·refine az (fun ms2 S2=>∃(i:Nat),S2.e 0=.p (.sl (.lent m0) (List.map (PV.int .i64) (p)))∧S2.e 3=.p (.int .i64 ((fv p k+vS (p.getD k 0) (p.take i))))∧S2.e 4=.p (.int .i64 (k))∧S2.e 5=.p (.int .i64 (i))∧(i≤k)∧(k<p.length)∧S1.n≤S2.n∧ms2=k - i) ((fun(i:Nat)=>k - i) (0)) ?_ ⟨0,dC fL1 ?_⟩
    all_goals try(apply aq;repeat' first|exact ao|apply aa|(apply au;intro zb hc)|(apply ar;intro zb)|intro j')<;>try apply aw
    rintro ms2 S2 ⟨i,h2_0,h2_3,h2_4,h2_5,c2_0,c2_1,u2_0,hm2⟩
    have fL2:=(aa h2_0 (aa h2_3 (aa h2_4 h2_5)))
    ·have b2:=yW (v:=p.getD k 0) (l:=p.take i)
     have b3:=rH (decide (p.getD k 0<p.getD i 0))
     rw[aV]at b2
     refine aQ fL2 ?_
     all_goals try(apply aq;repeat' first|exact ao|apply aa|(apply au;intro zb hc)|(apply ar;intro zb)|intro j')<;>try apply aw
     ·focus
       refine ay ((fun(i:Nat)=>k - i) (i+1)) (dC fL2 ?_) ⟨i+1,dC fL2 ?_⟩
       all_goals try(apply aq;repeat' first|exact ao|apply aa|(apply au;intro zb hc)|(apply ar;intro zb)|intro j')<;>try apply aw
      rw[aX (d:=0) (by omega),vR];omega
     ·focus
       refine ay ((fun(k:Nat)=>p.length - k) (k+1)) (dC fL2 ?_) ⟨k+1,dC fL2 ?_⟩
       all_goals try(apply aq;repeat' first|exact ao|apply aa|(apply au;intro zb hc)|(apply ar;intro zb)|intro j')<;>try apply aw
      obtain rfl:i=k:=by omega
      rfl
    ·simp[vS]
   ·obtain rfl:k=p.length:=by omega
    rfl
 ·rw[if_neg h]
  rw[aI]at h
  refine fO bA [2] Tryz.func28 ?_
  have cE1:= @eC;have cE2:= @aD;have cD1:=iE [false,false,false,false,false,false,false,false,false,false,true,false,false] [(0,10)]
  refine aQ @h ?_
  all_goals try(apply aq;repeat' first|exact ao|apply aa|(apply au;intro zb hc)|(apply ar;intro zb)|intro j')<;>try apply aw
theorem iu {v:Int}:∀{l:List Int},c6 v l=(l.countP (fun w=>decide (w<v)):Int)
 |[]=>rfl
 |w::l=>by
  rw[c6,iu,List.countP_cons]
  by_cases h:w<v
  ·rw[decide_eq_true h,if_pos rfl,dM,if_pos rfl];omega
  ·rw[decide_eq_false h,if_neg (by decide),dM,if_neg (by decide)];omega
theorem zi {v:Int} {a b:List Int}:c6 v (a++b)=c6 v a+c6 v b:=by
 rw[iu,iu,iu,List.countP_append];omega
def lV:List Int→Int
 |[]=>0
 |x::l=>x+lV l
theorem sI {v:Int} {p:List Int}:∀{k:Nat},k≤p.length→fv (v::p) (k+1)=c6 v (p.take k)+fv p k
 |0,_=>by simp[fv,vS,c6]
 |k+1,h=>by
  show fv (v::p) (k+1)+vS ((v::p).getD (k+1) 0) ((v::p).take (k+1))=c6 v (p.take (k+1))+(fv p k+vS (p.getD k 0) (p.take k))
  rw[sI (k:=k) (by omega),aX (l:=p) (i:=k) (d:=0) (by omega),zi,List.getD_cons_succ,List.take_succ_cons,vS,c6,c6];omega
theorem vz:∀{p:List Int},lV (bS p)=fv p p.length
 |[]=>rfl
 |v::p=>by rw[bS,lV,vz,aC,sI (am _),List.take_length]
theorem sw {x:Int}:∀{l:List Int},lV (l++[x])=lV l+x
 |[]=>by simp[lV]
 |w::l=>by rw[List.cons_append,lV,lV,sw];omega
def nI (f:Nat→Bool):Nat→List Int
 |0=>[]
 |k+1=>nI f k++if f k=true then[(k:Int)+1]else[]
theorem pJ {f:Nat→Bool}:∀{k:Nat},(nI f k).length≤k∧∀x∈nI f k,1≤x∧x≤k
 |0=>by simp[nI]
 |k+1=>by
  obtain⟨h1,h2⟩:=pJ (f:=f) (k:=k)
  rw[nI]
  refine⟨by split<;>simp<;>omega,fun x hx=> ?_⟩
  rcases List.mem_append.1 hx with g|g
  ·have:=h2 x g;omega
  ·split at g
   ·rw[aP]at g;omega
   ·cases g
def rR (p:List Int) (k:Nat):Bool:=decide (k+1<p.length)&&decide (p.getD (k+1) 0<p.getD k 0)
def xI (p:List Int):List Int:=if al p=true then nI (rR p) p.length else[]
theorem dsL_f {p:List Int}:(xI p).length≤8∧∀x∈xI p,1≤x∧x≤8:=by
 unfold xI;split
 ·rename_i h
  have h8:=(aK h).1
  obtain⟨h1,h2⟩:=pJ (f:=rR p) (k:=p.length)
  exact⟨by omega,fun x hx=>by have:=h2 x hx;omega⟩
 ·simp
theorem It {p:List Int} {k:Nat} (h:p.length≤k+1):nI (rR p) (k+1)=nI (rR p) k:=by
 rw[nI,rR,decide_eq_false (by omega)];simp
theorem lJ (k:Int) (p:List Int) (m1:Bool) (h0:0≤k) (h1:k<p.length) (h8:p.length≤8):Fun Tryz.prog 87 [(.int .i64 (k)),(.pc [.sl (.lent m1) (List.map (PV.int .i64) p)])] [(.bool (rR p k.toNat))]:=by
 refine fO bA [3] Tryz.func87 ?_
 obtain⟨K,rfl⟩:=Int.eq_ofNat_of_zero_le h0
 have e1:((K:Int)+1).toNat=K+1:=by omega
 by_cases h:K+1<p.length
 ·have e:rR p (K:Int).toNat=decide (p.getD (K+1) 0<p.getD K 0):=by rw[rR,Int.toNat_natCast,decide_eq_true h,Bool.true_and]
  rw[e]
  refine aQ @e1 ?_
  all_goals try(apply aq;repeat' first|exact ao|apply aa|(apply au;intro zb hc)|(apply ar;intro zb)|intro j')<;>try apply aw
 ·have e:rR p (K:Int).toNat=false:=by rw[rR,Int.toNat_natCast,decide_eq_false h,Bool.false_and]
  rw[e]
  refine aQ @e1 ?_
  all_goals try(apply aq;repeat' first|exact ao|apply aa|(apply au;intro zb hc)|(apply ar;intro zb)|intro j')<;>try apply aw
theorem lS {m0:Bool} (p:List Int) (g:FuncId) (caps:List PV) (f:Nat→Bool) (hl:p.length≤1048576) (hf:al p=true→∀k:Nat,k<p.length→Fun Tryz.prog g (.int .i64 k::caps.map PV.cell) [.bool (f k)]):Fun Tryz.prog 86 [(.sl (.lent m0) (List.map (PV.int .i64) (p))),(.fn g [] caps)] [(.sl .own (List.map (PV.int .i64) ((if al p=true then nI f p.length else[]))))]:=by
 by_cases h:al p=true
 ·have h8:=(aK h).1
  rw[if_pos h]
  refine fO bA [4] Tryz.func86 ?_
  have cE1:= @aA
  refine aQ @h ?_
  all_goals try(apply aq;repeat' first|exact ao|apply aa|(apply au;intro zb hc)|(apply ar;intro zb)|intro j')<;>try apply aw
  refine az (fun ms1 S1=>∃(k:Nat),S1.e 0=.p (.sl (.lent m0) (List.map (PV.int .i64) (p)))∧S1.e 1=.p (.fn g [] caps)∧OwnL (S1.e 5) S1.h S1.n (PV.int .i64) ((nI f k).length) (nI f k)∧S1.e 12=.p (.int .i64 (p.length))∧S1.e 13=.p (.int .i64 (k))∧(k≤p.length)∧ms1=p.length - k) ((fun(k:Nat)=>p.length - k) (0)) ?_ ⟨0,dC trivial ?_⟩
  all_goals try(apply aq;repeat' first|exact ao|apply aa|(apply au;intro zb hc)|(apply ar;intro zb)|intro j')<;>try apply aw
  rintro ms1 S1 ⟨k,h1_0,h1_1,o1_5,h1_12,h1_13,c1_0,hm1⟩
  obtain⟨i1_5,h1_5,b1_5,l1_5⟩:=o1_5.out
  have ni1_5:=bi (x:=i1_5) (n:=S1.n)
  have fL1:=(aa h1_0 (aa h1_1 (aa h1_12 (aa h1_13 (aa h1_5 (aa b1_5 ni1_5))))))
  ·have l1:=(pJ (f:=f) (k:=k)).1
   by_cases hk:k<p.length
   ·have c9:=hf h k hk
    cases hb:f k with
    |true=>
     have e:nI f (k+1)=nI f k++[(k:Int)+1]:=by rw[nI,hb];rfl
     have cE1:= @c9;have cE2:= @aA
     refine aQ (aa fL1 @hb) ?_
     all_goals try(apply aq;repeat' first|exact ao|apply aa|(apply au;intro zb hc)|(apply ar;intro zb)|intro j')<;>try apply aw
     focus
      refine ay ((fun(k:Nat)=>p.length - k) (k+1)) (dC fL1 ?_) ⟨k+1,dC fL1 ?_⟩
      all_goals try(apply aq;repeat' first|exact ao|apply aa|(apply au;intro zb hc)|(apply ar;intro zb)|intro j')<;>try apply aw
     all_goals(first|(rw[e];done)|(rw[e,ak];rfl)|skip)
    |false=>
     have e:nI f (k+1)=nI f k:=by rw[nI,hb];simp
     have cE1:= @c9;have cE2:= @aA
     refine aQ (aa fL1 @hb) ?_
     all_goals try(apply aq;repeat' first|exact ao|apply aa|(apply au;intro zb hc)|(apply ar;intro zb)|intro j')<;>try apply aw
     focus
      refine ay ((fun(k:Nat)=>p.length - k) (k+1)) (dC fL1 ?_) ⟨k+1,dC fL1 ?_⟩
      all_goals try(apply aq;repeat' first|exact ao|apply aa|(apply au;intro zb hc)|(apply ar;intro zb)|intro j')<;>try apply aw
     all_goals(first|(rw[e];done)|skip)
   ·obtain rfl:k=p.length:=by omega
    have cE1:= @aA;have cE2:=trivial
    refine aQ fL1 ?_
    all_goals try(apply aq;repeat' first|exact ao|apply aa|(apply au;intro zb hc)|(apply ar;intro zb)|intro j')<;>try apply aw
 ·rw[if_neg h]
  rw[aI]at h
  refine fO bA [4] Tryz.func86 ?_
  have cE1:= @aA
  refine aQ @h ?_
  all_goals try(apply aq;repeat' first|exact ao|apply aa|(apply au;intro zb hc)|(apply ar;intro zb)|intro j')<;>try apply aw
theorem di {m0:Bool} (p:List Int) (hl:p.length≤1048576):Fun Tryz.prog 40 [(.sl (.lent m0) (List.map (PV.int .i64) (p)))] [(.sl .own (List.map (PV.int .i64) (xI p)))]:=by
 have c1:=fun m0:Bool=>lS (m0:=m0) p 87 [.pc [.sl (.lent m0) (List.map (PV.int .i64) p)]] (rR p) hl (fun h k hk=>by
  have:=lJ (k:Int) p m0 (by omega) (by omega) (aK h).1
  rw[Int.toNat_natCast]at this;exact this)
 rw[xI]
 refine fO bA [2] Tryz.func40 ?_
 have cE1:= @lS
 have cE1:= @c1
 refine aQ trivial ?_
 all_goals try(apply aq;repeat' first|exact ao|apply aa|(apply au;intro zb hc)|(apply ar;intro zb)|intro j')<;>try apply aw
theorem dg {m0:Bool} (p:List Int) (hl:p.length≤1048576):Fun Tryz.prog 26 [(.sl (.lent m0) (List.map (PV.int .i64) (p)))] [(.sl .own (List.map (PV.int .i64) (xI p)))]:=by
 by_cases h:al p=true
 ·have h8:=(aK h).1
  rw[xI,if_pos h]
  refine fO bA [2] Tryz.func26 ?_
  have cE1:= @aD
  refine aQ trivial ?_
  all_goals try(apply aq;repeat' first|exact ao|apply aa|(apply au;intro zb hc)|(apply ar;intro zb)|intro j')<;>try apply aw
  refine az (fun ms1 S1=>∃(k:Nat),S1.e 0=.p (.sl (.lent m0) (List.map (PV.int .i64) (p)))∧OwnL (S1.e 3) S1.h S1.n (PV.int .i64) ((nI (rR p) k).length) (nI (rR p) k)∧S1.e 4=.p (.int .i64 (k))∧(k≤p.length)∧(k=0∨k+1≤p.length)∧ms1=p.length - k) ((fun(k:Nat)=>p.length - k) (0)) ?_ ⟨0,dC trivial ?_⟩
  all_goals try(apply aq;repeat' first|exact ao|apply aa|(apply au;intro zb hc)|(apply ar;intro zb)|intro j')<;>try apply aw
  rintro ms1 S1 ⟨k,h1_0,o1_3,h1_4,c1_0,c1_1,hm1⟩
  obtain⟨i1_3,h1_3,b1_3,l1_3⟩:=o1_3.out
  have ni1_3:=bi (x:=i1_3) (n:=S1.n)
  have fL1:=(aa h1_0 (aa h1_4 (aa h1_3 (aa b1_3 ni1_3))))
  ·have l1:=(pJ (f:=rR p) (k:=k)).1
   by_cases hk:k+1<p.length
   ·by_cases hb:p.getD (k+1) 0<p.getD k 0
    ·have e:nI (rR p) (k+1)=nI (rR p) k++[(k:Int)+1]:=by rw[nI,rR,decide_eq_true hk,decide_eq_true hb];rfl
     refine aQ (aa fL1 (aa @h @hb)) ?_
     all_goals try(apply aq;repeat' first|exact ao|apply aa|(apply au;intro zb hc)|(apply ar;intro zb)|intro j')<;>try apply aw
     focus
      refine ay ((fun(k:Nat)=>p.length - k) (k+1)) (dC fL1 ?_) ⟨k+1,dC fL1 ?_⟩
      all_goals try(apply aq;repeat' first|exact ao|apply aa|(apply au;intro zb hc)|(apply ar;intro zb)|intro j')<;>try apply aw
     all_goals(first|(rw[e];done)|(rw[e,ak];rfl)|skip)
    ·have e:nI (rR p) (k+1)=nI (rR p) k:=by rw[nI,rR,decide_eq_false hb];simp
     have hb':(p.getD (k+1) 0<p.getD k 0)=False:=eq_false hb
     refine aQ (aa fL1 (aa @h @hb')) ?_
     all_goals try(apply aq;repeat' first|exact ao|apply aa|(apply au;intro zb hc)|(apply ar;intro zb)|intro j')<;>try apply aw
     focus
      refine ay ((fun(k:Nat)=>p.length - k) (k+1)) (dC fL1 ?_) ⟨k+1,dC fL1 ?_⟩
      all_goals try(apply aq;repeat' first|exact ao|apply aa|(apply au;intro zb hc)|(apply ar;intro zb)|intro j')<;>try apply aw
     all_goals(first|(rw[e];done)|skip)
   ·have e:nI (rR p) p.length=nI (rR p) k:=by
     by_cases g:p.length=k
     ·rw[g]
     ·rw[show p.length=k+1 by omega];exact It (by omega)
    refine aQ fL1 ?_
    all_goals try(apply aq;repeat' first|exact ao|apply aa|(apply au;intro zb hc)|(apply ar;intro zb)|intro j')<;>try apply aw
    all_goals(first|(rw[e];done)|skip)
 ·have e:xI p=[]:=if_neg h
  rw[e]
  rw[aI]at h
  refine fO bA [2] Tryz.func26 ?_
  have cE1:= @aD
  refine aQ trivial ?_
  all_goals try(apply aq;repeat' first|exact ao|apply aa|(apply au;intro zb hc)|(apply ar;intro zb)|intro j')<;>try apply aw
  refine az (fun ms2 S2=>∃(u:Nat),S2.e 0=.p (.sl (.lent m0) (List.map (PV.int .i64) (p)))∧OwnL (S2.e 3) S2.h S2.n (PV.int .i64) ((([]:List Int)).length) (([]:List Int))∧S2.e 4=.p (.int .i64 (0))∧ms2=u) ((fun(u:Nat)=>u) (0)) ?_ ⟨0,dC trivial ?_⟩
  all_goals try(apply aq;repeat' first|exact ao|apply aa|(apply au;intro zb hc)|(apply ar;intro zb)|intro j')<;>try apply aw
  rintro ms2 S2 ⟨u,h2_0,o2_3,h2_4,hm2⟩
  obtain⟨i2_3,h2_3,b2_3,l2_3⟩:=o2_3.out
  have ni2_3:=bi (x:=i2_3) (n:=S2.n)
  have fL2:=(aa h2_0 (aa h2_4 (aa h2_3 (aa b2_3 ni2_3))))
  ·refine aQ (aa fL2 @h) ?_
   all_goals try(apply aq;repeat' first|exact ao|apply aa|(apply au;intro zb hc)|(apply ar;intro zb)|intro j')<;>try apply aw
def Jn (l:List Int):Nat→Int
 |0=>0
 |k+1=>Jn l k+l.getD k 0
theorem yG {l:List Int} (h:∀x∈l,1≤x∧x≤8):∀{k:Nat},k≤l.length→0≤Jn l k∧Jn l k≤8*k
 |0,_=>by simp[Jn]
 |k+1,hk=>by
  have h1:=yG h (k:=k) (by omega)
  have h2:=h _ (aF (l:=l) (i:=k) (d:=0) (by omega))
  rw[Jn];omega
def C6 (p:List Int):Int:=if al p=true then Jn (xI p) (xI p).length else -1
theorem C5 {p:List Int}: -1≤C6 p∧C6 p≤64:=by
 unfold C6;split
 ·obtain⟨h1,h2⟩:=dsL_f (p:=p)
  have:=yG h2 (am _);omega
 ·omega
theorem iS {m0:Bool} (p:List Int) (hl:p.length≤1048576):Fun Tryz.prog 43 [(.sl (.lent m0) (List.map (PV.int .i64) (p)))] [(.int .i64 (C6 p))]:=by
 by_cases h:al p=true
 ·obtain⟨h1,h2⟩:=dsL_f (p:=p)
  rw[C6,if_pos h]
  generalize hL:xI p=L at*
  refine fO bA [2] Tryz.func43 ?_
  have cE1:= @aA;have cE2:= @di
  refine aQ (aa @h @hL) ?_
  all_goals try(apply aq;repeat' first|exact ao|apply aa|(apply au;intro zb hc)|(apply ar;intro zb)|intro j')<;>try apply aw
  refine az (fun ms1 S1=>∃(k:Nat),S1.e 3=.p (.int .i64 (Jn L k))∧OwnL (S1.e 10) S1.h S1.n (PV.int .i64) ((L).length) (L)∧S1.e 11=.p (.int .i64 (L.length))∧S1.e 12=.p (.int .i64 (k))∧(k≤L.length)∧ms1=L.length - k) ((fun(k:Nat)=>L.length - k) (0)) ?_ ⟨0,dC trivial ?_⟩
  all_goals try(apply aq;repeat' first|exact ao|apply aa|(apply au;intro zb hc)|(apply ar;intro zb)|intro j')<;>try apply aw
  rintro ms1 S1 ⟨k,h1_3,o1_10,h1_11,h1_12,c1_0,hm1⟩
  obtain⟨i1_10,h1_10,b1_10,l1_10⟩:=o1_10.out
  have ni1_10:=bi (x:=i1_10) (n:=S1.n)
  have fL1:=(aa h1_3 (aa h1_11 (aa h1_12 (aa h1_10 (aa b1_10 ni1_10)))))
  ·have b1:=yG h2 c1_0
   by_cases hk:k<L.length
   ·have b2:=h2 _ (aF (l:=L) (i:=k) (d:=0) hk)
    refine aQ fL1 ?_
    all_goals try(apply aq;repeat' first|exact ao|apply aa|(apply au;intro zb hc)|(apply ar;intro zb)|intro j')<;>try apply aw
    focus
     refine ay ((fun(k:Nat)=>L.length - k) (k+1)) (dC fL1 ?_) ⟨k+1,dC fL1 ?_⟩
     all_goals try(apply aq;repeat' first|exact ao|apply aa|(apply au;intro zb hc)|(apply ar;intro zb)|intro j')<;>try apply aw
   ·obtain rfl:k=L.length:=by omega
    refine aQ fL1 ?_
    all_goals try(apply aq;repeat' first|exact ao|apply aa|(apply au;intro zb hc)|(apply ar;intro zb)|intro j')<;>try apply aw
 ·rw[C6,if_neg h]
  rw[aI]at h
  refine fO bA [2] Tryz.func43 ?_
  have cE1:= @aA;have cE2:= @di
  refine aQ @h ?_
  all_goals try(apply aq;repeat' first|exact ao|apply aa|(apply au;intro zb hc)|(apply ar;intro zb)|intro j')<;>try apply aw
theorem iG {m0:Bool} (p:List Int) (hl:p.length≤1048576):Fun Tryz.prog 29 [(.sl (.lent m0) (List.map (PV.int .i64) (p)))] [(.int .i64 (C6 p))]:=by
 by_cases h:al p=true
 ·obtain⟨h1,h2⟩:=dsL_f (p:=p)
  rw[C6,if_pos h]
  generalize hL:xI p=L at*
  refine fO bA [2] Tryz.func29 ?_
  have cE1:= @aD;have cE2:= @dg
  refine aQ (aa @h @hL) ?_
  all_goals try(apply aq;repeat' first|exact ao|apply aa|(apply au;intro zb hc)|(apply ar;intro zb)|intro j')<;>try apply aw
  refine az (fun ms1 S1=>∃(k:Nat),S1.e 3=.p (.int .i64 (Jn L k))∧OwnL (S1.e 4) S1.h S1.n (PV.int .i64) ((L).length) (L)∧S1.e 5=.p (.int .i64 (k))∧(k≤L.length)∧ms1=L.length - k) ((fun(k:Nat)=>L.length - k) (0)) ?_ ⟨0,dC trivial ?_⟩
  all_goals try(apply aq;repeat' first|exact ao|apply aa|(apply au;intro zb hc)|(apply ar;intro zb)|intro j')<;>try apply aw
  rintro ms1 S1 ⟨k,h1_3,o1_4,h1_5,c1_0,hm1⟩
  obtain⟨i1_4,h1_4,b1_4,l1_4⟩:=o1_4.out
  have ni1_4:=bi (x:=i1_4) (n:=S1.n)
  have fL1:=(aa h1_3 (aa h1_5 (aa h1_4 (aa b1_4 ni1_4))))
  ·have b1:=yG h2 c1_0
   by_cases hk:k<L.length
   ·have b2:=h2 _ (aF (l:=L) (i:=k) (d:=0) hk)
    refine aQ fL1 ?_
    all_goals try(apply aq;repeat' first|exact ao|apply aa|(apply au;intro zb hc)|(apply ar;intro zb)|intro j')<;>try apply aw
    focus
     refine ay ((fun(k:Nat)=>L.length - k) (k+1)) (dC fL1 ?_) ⟨k+1,dC fL1 ?_⟩
     all_goals try(apply aq;repeat' first|exact ao|apply aa|(apply au;intro zb hc)|(apply ar;intro zb)|intro j')<;>try apply aw
   ·obtain rfl:k=L.length:=by omega
    refine aQ fL1 ?_
    all_goals try(apply aq;repeat' first|exact ao|apply aa|(apply au;intro zb hc)|(apply ar;intro zb)|intro j')<;>try apply aw
 ·rw[C6,if_neg h]
  rw[aI]at h
  refine fO bA [2] Tryz.func29 ?_
  have cE1:= @aD;have cE2:= @dg
  refine aQ @h ?_
  all_goals try(apply aq;repeat' first|exact ao|apply aa|(apply au;intro zb hc)|(apply ar;intro zb)|intro j')<;>try apply aw
theorem s9:∀{p:List Int} {i:Nat},i<p.length→(bS p).getD i 0=c6 (p.getD i 0) (p.drop (i+1))
 |[],_,h=>by simp at h
 |_::_,0,_=>rfl
 |_::p,i+1,h=>s9 (p:=p) (by simpa using h)
theorem yf {l:List Int} {k:Nat} (h:k<l.length):lV (l.take (k+1))=lV (l.take k)+l.getD k 0:=by rw[aX (d:=0) h,sw]
theorem yg {l:List Int} {B:Nat} (h:∀x∈l,0≤x∧x≤B):∀{k:Nat},k≤l.length→0≤lV (l.take k)∧lV (l.take k)≤(B*k:Nat)
 |0,_=>by simp[lV]
 |k+1,hk=>by
  have h1:=yg h (k:=k) (by omega)
  have h2:=h _ (aF (l:=l) (i:=k) (d:=0) (by omega))
  rw[yf (by omega),Nat.mul_succ];omega
theorem En {v:Int} {l:List Int} {k:Nat} (h:k<l.length):c6 v (l.take (k+1))=c6 v (l.take k)+dM (decide (l.getD k 0<v)):=by
 rw[aX (d:=0) h,zi];simp[c6]
theorem jp {m0:Bool} (p:List Int) (h8:p.length≤8):Fun Tryz.prog 89 [(.sl (.lent m0) (List.map (PV.int .i64) (p)))] [(.int .i64 (fv p p.length))]:=by
 refine fO bA [2] Tryz.func89 ?_
 have hb:∀x∈bS p,0≤x∧x≤(8:Nat):=fun x hx=>by
  obtain⟨i,hi,rfl⟩:=bh hx
  have:=oC p i
  rw[ac,ae hi]at this
  simp only[Option.getD_some]at this;omega
 have hq:=jC p
 rw[←vz]
 refine aQ trivial ?_
 all_goals try(apply aq;repeat' first|exact ao|apply aa|(apply au;intro zb hc)|(apply ar;intro zb)|intro j')<;>try apply aw
 refine az (fun ms1 S1=>∃(i:Nat),S1.e 0=.p (.sl (.lent m0) (List.map (PV.int .i64) (p)))∧S1.e 3=.p (.int .i64 (lV ((bS p).take i)))∧S1.e 8=.p (.sl (.lent m0) (List.map (PV.int .i64) (p)))∧S1.e 9=.p (.int .i64 (p.length))∧S1.e 10=.p (.int .i64 (i))∧(i≤p.length)∧ms1=p.length - i) ((fun(i:Nat)=>p.length - i) (0)) ?_ ⟨0,dC trivial ?_⟩
 all_goals try(apply aq;repeat' first|exact ao|apply aa|(apply au;intro zb hc)|(apply ar;intro zb)|intro j')<;>try apply aw
 rintro ms1 S1 ⟨i,h1_0,h1_3,h1_8,h1_9,h1_10,c1_0,hm1⟩
 have fL1:=(aa h1_0 (aa h1_3 (aa h1_8 (aa h1_9 h1_10))))
 ·have b1:=yg hb (k:=i) (by omega)
  by_cases hi:i<p.length
  ·have e1:((i:Int)+1).toNat=i+1:=by omega
   have e2:(p.drop (i+1)).length=p.length - (i+1):=List.length_drop
   have e3:=yf (l:=bS p) (k:=i) (by omega)
   rw[s9 hi]at e3
   generalize hD:p.drop (i+1)=D at*
   refine aQ (aa fL1 (aa @e1 @hD)) ?_
   all_goals try(apply aq;repeat' first|exact ao|apply aa|(apply au;intro zb hc)|(apply ar;intro zb)|intro j')<;>try apply aw
   refine az (fun ms2 S2=>∃(j:Nat),S2.e 0=.p (.sl (.lent m0) (List.map (PV.int .i64) (p)))∧S2.e 3=.p (.int .i64 ((lV ((bS p).take i)+c6 (p.getD i 0) (D.take j))))∧S2.e 8=.p (.sl (.lent m0) (List.map (PV.int .i64) (p)))∧S2.e 9=.p (.int .i64 (p.length))∧S2.e 10=.p (.int .i64 (i))∧S2.e 5=.p (.int .i64 ((p.getD i 0)))∧S2.e 18=.p (.sl (.lent m0) (List.map (PV.int .i64) (D)))∧S2.e 19=.p (.int .i64 (D.length))∧S2.e 20=.p (.int .i64 (j))∧(j≤D.length)∧S1.n≤S2.n∧ms2=D.length - j) ((fun(j:Nat)=>D.length - j) (0)) ?_ ⟨0,dC fL1 ?_⟩
   all_goals try(apply aq;repeat' first|exact ao|apply aa|(apply au;intro zb hc)|(apply ar;intro zb)|intro j')<;>try apply aw
   rintro ms2 S2 ⟨j,h2_0,h2_3,h2_8,h2_9,h2_10,h2_5,h2_18,h2_19,h2_20,c2_0,u2_0,hm2⟩
   have fL2:=(aa h2_0 (aa h2_3 (aa h2_8 (aa h2_9 (aa h2_10 (aa h2_5 (aa h2_18 (aa h2_19 h2_20))))))))
   ·have b2:=rA (p.getD i 0) (D.take j)
    rw[aV]at b2
    by_cases hj:j<D.length
    ·have e4:=En (v:=p.getD i 0) hj
     by_cases hv:D.getD j 0<p.getD i 0
     ·rw[decide_eq_true hv]at e4
      refine aQ (aa fL2 @hv) ?_
      all_goals try(apply aq;repeat' first|exact ao|apply aa|(apply au;intro zb hc)|(apply ar;intro zb)|intro j')<;>try apply aw
      focus
       refine ay ((fun(j:Nat)=>D.length - j) (j+1)) (dC fL2 ?_) ⟨j+1,dC fL2 ?_⟩
       all_goals try(apply aq;repeat' first|exact ao|apply aa|(apply au;intro zb hc)|(apply ar;intro zb)|intro j')<;>try apply aw
      all_goals(first|(rw[e4];simp only[dM,if_true];omega)|skip)
     ·rw[decide_eq_false hv]at e4
      have hv':(D.getD j 0<p.getD i 0)=False:=eq_false hv
      refine aQ (aa fL2 @hv') ?_
      all_goals try(apply aq;repeat' first|exact ao|apply aa|(apply au;intro zb hc)|(apply ar;intro zb)|intro j')<;>try apply aw
      focus
       refine ay ((fun(j:Nat)=>D.length - j) (j+1)) (dC fL2 ?_) ⟨j+1,dC fL2 ?_⟩
       all_goals try(apply aq;repeat' first|exact ao|apply aa|(apply au;intro zb hc)|(apply ar;intro zb)|intro j')<;>try apply aw
      all_goals(first|(rw[e4];simp[dM];done)|skip)
    ·have e5:D.take j=D:=ah (by omega)
     refine aQ (aa fL2 @e5) ?_
     all_goals try(apply aq;repeat' first|exact ao|apply aa|(apply au;intro zb hc)|(apply ar;intro zb)|intro j')<;>try apply aw
     focus
      refine ay ((fun(i:Nat)=>p.length - i) (i+1)) (dC fL2 ?_) ⟨i+1,dC fL2 ?_⟩
      all_goals try(apply aq;repeat' first|exact ao|apply aa|(apply au;intro zb hc)|(apply ar;intro zb)|intro j')<;>try apply aw
     all_goals(first|(rw[e3];done)|(rw[e5,e3];done)|skip)
   all_goals(first|(simp[c6];done)|skip)
  ·have e6:(bS p).take i=bS p:=ah (by omega)
   refine aQ (aa fL1 @e6) ?_
   all_goals try(apply aq;repeat' first|exact ao|apply aa|(apply au;intro zb hc)|(apply ar;intro zb)|intro j')<;>try apply aw
   all_goals(first|(rw[e6];done)|skip)
theorem dK {m0:Bool} (p:List Int) (hl:p.length≤1048576):Fun Tryz.prog 42 [(.sl (.lent m0) (List.map (PV.int .i64) (p)))] [(.int .i64 ((if al p then fv p p.length else -1)))]:=by
 by_cases h:al p=true
 ·have h8:=(aK h).1
  have e:(if al p then fv p p.length else -1)=fv p p.length:=if_pos h
  rw[e]
  refine fO bA [2] Tryz.func42 ?_
  have cE1:= @aA;have cE2:= @jp
  refine aQ @h ?_
  all_goals try(apply aq;repeat' first|exact ao|apply aa|(apply au;intro zb hc)|(apply ar;intro zb)|intro j')<;>try apply aw
 ·have e:(if al p then fv p p.length else -1)= -1:=if_neg h
  rw[e]
  rw[aI]at h
  refine fO bA [2] Tryz.func42 ?_
  have cE1:= @aA;have cE2:= @jp
  refine aQ @h ?_
  all_goals try(apply aq;repeat' first|exact ao|apply aa|(apply au;intro zb hc)|(apply ar;intro zb)|intro j')<;>try apply aw
def wH (p:List Int):Nat→List Bool→Nat→List Bool
 |0,v,_=>v
 |d+1,v,x=>if v.getD x false=true then v else wH p d (v.set x true) (p.getD x 0 - 1).toNat
def js (p:List Int):Nat→List Bool×Int
 |0=>(List.replicate p.length false,0)
 |k+1=>if(js p k).1.getD k false=true then js p k else(wH p p.length (js p k).1 k,(js p k).2+1)
def Np (v:List Bool):Nat:=v.countP fun b=> !b
theorem um:∀{v:List Bool} {x:Nat},x<v.length→v.getD x false=false→Np (v.set x true)+1=Np v
 |b::v,0,_,h=>by
  simp only[List.getD_cons_zero]at h;subst h
  simp[Np]
 |b::v,x+1,hx,h=>by
  have:=um (v:=v) (x:=x) (by simpa using hx) (by simpa using h)
  simp only[Np,List.set_cons_succ,List.countP_cons]at this ⊢;omega
theorem DU {v:List Bool}:Np v≤v.length:=List.countP_le_length
theorem oB {p:List Int} {d:Nat} {v:List Bool} {x:Nat} (h:v.getD x false=true):wH p d v x=v:=by
 cases d with
 |zero=>rfl
 |succ d=>rw[wH,if_pos h]
theorem pL {p:List Int}:∀{d:Nat} {v:List Bool} {x:Nat},(wH p d v x).length=v.length
 |0,_,_=>rfl
 |d+1,v,x=>by rw[wH];split;rfl;rw[pL,List.length_set]
theorem zg {p:List Int}:∀{k:Nat},(js p k).1.length=p.length∧0≤(js p k).2∧(js p k).2≤k
 |0=>by simp[js]
 |k+1=>by
  obtain⟨h1,h2,h3⟩:=zg (p:=p) (k:=k)
  rw[js];split
  ·exact⟨h1,h2,by omega⟩
  ·exact⟨by rw[pL,h1],by simp only;omega,by simp only;omega⟩
def El (p:List Int):Int:=if al p=true then(js p p.length).2 else -1
theorem Ek {p:List Int}: -1≤El p∧El p≤8:=by
 unfold El;split
 ·rename_i h
  have h8:=(aK h).1
  obtain⟨_,h2,h3⟩:=zg (p:=p) (k:=p.length);omega
 ·omega
theorem fx {m0:Bool} (p:List Int) (hl:p.length≤1048576):Fun Tryz.prog 44 [(.sl (.lent m0) (List.map (PV.int .i64) (p)))] [(.int .i64 (El p))]:=by
 by_cases h:al p=true
 ·obtain⟨h8,hq⟩:=aK h
  rw[El,if_pos h]
  refine fO bA [2] Tryz.func44 ?_
  have cE1:= @aA
  refine aQ @h ?_
  all_goals try(apply aq;repeat' first|exact ao|apply aa|(apply au;intro zb hc)|(apply ar;intro zb)|intro j')<;>try apply aw
  refine az (fun ms1 S1=>∃(k:Nat),S1.e 0=.p (.sl (.lent m0) (List.map (PV.int .i64) (p)))∧OwnL (S1.e 3) S1.h S1.n PV.bool (((js p k).1).length) ((js p k).1)∧S1.e 4=.p (.int .i64 ((js p k).2))∧S1.e 14=.p (.int .i64 (p.length))∧S1.e 15=.p (.int .i64 (k))∧(k≤p.length)∧ms1=p.length - k) ((fun(k:Nat)=>p.length - k) (0)) ?_ ⟨0,dC trivial ?_⟩
  all_goals try(apply aq;repeat' first|exact ao|apply aa|(apply au;intro zb hc)|(apply ar;intro zb)|intro j')<;>try apply aw
  rintro ms1 S1 ⟨k,h1_0,o1_3,h1_4,h1_14,h1_15,c1_0,hm1⟩
  obtain⟨i1_3,h1_3,b1_3,l1_3⟩:=o1_3.out
  have ni1_3:=bi (x:=i1_3) (n:=S1.n)
  have fL1:=(aa h1_0 (aa h1_4 (aa h1_14 (aa h1_15 (aa h1_3 (aa b1_3 ni1_3))))))
  ·obtain⟨q1,q2,q3⟩:=zg (p:=p) (k:=k)
   by_cases hk:k<p.length
   ·have e0:js p (k+1)=if(js p k).1.getD k false=true then js p k else(wH p p.length (js p k).1 k,(js p k).2+1):=rfl
    have e1:(js p (k+1)).1=wH p p.length (js p k).1 k:=by
     rw[e0];split
     ·rename_i g;exact(oB g).symm
     ·rfl
    have e2:(js p (k+1)).2=if(js p k).1.getD k false=true then(js p k).2 else(js p k).2+1:=by rw[e0];split<;>rfl
    generalize hV:(js p k).1=V at*
    generalize hC:(js p k).2=C at*
    obtain⟨T,hT⟩:∃T,wH p p.length V k=T:=⟨_,rfl⟩
    rw[hT]at e1
    have hT8:T.length=p.length:=by rw[←hT,pL,q1]
    have fle:=DU (v:=V)
    cases hb:V.getD k false with
    |true=>
     rw[hb,if_pos rfl]at e2
     rw[oB hb]at hT
     refine aQ (aa fL1 @hb) ?_
     all_goals try(apply aq;repeat' first|exact ao|apply aa|(apply au;intro zb hc)|(apply ar;intro zb)|intro j')<;>try apply aw
     refine az (fun ms2 S2=>∃(u:Nat),S2.e 0=.p (.sl (.lent m0) (List.map (PV.int .i64) (p)))∧OwnL (S2.e 3) S2.h S2.n PV.bool ((V).length) (V)∧S2.e 4=.p (.int .i64 (C))∧S2.e 14=.p (.int .i64 (p.length))∧S2.e 15=.p (.int .i64 (k))∧S2.e 5=.p (.int .i64 (k))∧S2.e 6=.p (.int .i64 (k))∧S1.n≤S2.n∧ms2=u) ((fun(u:Nat)=>u) (0)) ?_ ⟨0,dC fL1 ?_⟩
     all_goals try(apply aq;repeat' first|exact ao|apply aa|(apply au;intro zb hc)|(apply ar;intro zb)|intro j')<;>try apply aw
     rintro ms2 S2 ⟨u,h2_0,o2_3,h2_4,h2_14,h2_15,h2_5,h2_6,u2_0,hm2⟩
     obtain⟨i2_3,h2_3,b2_3,l2_3⟩:=o2_3.out
     have ni2_3:=bi (x:=i2_3) (n:=S2.n)
     have fL2:=(aa h2_0 (aa h2_4 (aa h2_14 (aa h2_15 (aa h2_5 (aa h2_6 (aa h2_3 (aa b2_3 ni2_3))))))))
     ·refine aQ (aa fL2 @hb) ?_
      all_goals try(apply aq;repeat' first|exact ao|apply aa|(apply au;intro zb hc)|(apply ar;intro zb)|intro j')<;>try apply aw
      focus
       refine ay ((fun(k:Nat)=>p.length - k) (k+1)) (dC fL2 ?_) ⟨k+1,dC fL2 ?_⟩
       all_goals try(apply aq;repeat' first|exact ao|apply aa|(apply au;intro zb hc)|(apply ar;intro zb)|intro j')<;>try apply aw
      all_goals(first|(rw[e1,←hT];done)|(rw[e2];done)|(rw[e1,hT8,q1];done)|skip)
    |false=>
     rw[hb,if_neg (by decide)]at e2
     refine aQ (aa fL1 @hb) ?_
     all_goals try(apply aq;repeat' first|exact ao|apply aa|(apply au;intro zb hc)|(apply ar;intro zb)|intro j')<;>try apply aw
     refine az (fun ms3 S3=>∃(d:Nat) (v:List Bool) (x:Nat),S3.e 0=.p (.sl (.lent m0) (List.map (PV.int .i64) (p)))∧OwnL (S3.e 3) S3.h S3.n PV.bool ((v).length) (v)∧S3.e 4=.p (.int .i64 ((C+1)))∧S3.e 14=.p (.int .i64 (p.length))∧S3.e 15=.p (.int .i64 (k))∧S3.e 5=.p (.int .i64 (k))∧S3.e 6=.p (.int .i64 (x))∧(v.length=p.length)∧(x<p.length)∧(wH p d v x=T)∧(Np v≤d)∧S1.n≤S3.n∧ms3=d) ((fun(d:Nat) (v:List Bool) (x:Nat)=>d) (p.length) (V) (k)) ?_ ⟨p.length,V,k,dC fL1 ?_⟩
     all_goals try(apply aq;repeat' first|exact ao|apply aa|(apply au;intro zb hc)|(apply ar;intro zb)|intro j')<;>try apply aw
     rintro ms3 S3 ⟨d,v,x,h3_0,o3_3,h3_4,h3_14,h3_15,h3_5,h3_6,c3_0,c3_1,c3_2,c3_3,u3_0,hm3⟩
     obtain⟨i3_3,h3_3,b3_3,l3_3⟩:=o3_3.out
     have ni3_3:=bi (x:=i3_3) (n:=S3.n)
     have fL3:=(aa h3_0 (aa h3_4 (aa h3_14 (aa h3_15 (aa h3_5 (aa h3_6 (aa h3_3 (aa b3_3 ni3_3))))))))
     ·have x1:=(permB_iff.1 hq).1 _ (aF (l:=p) (i:=x) (d:=0) (by omega))
      cases hv:v.getD x false with
      |true=>
       rw[oB hv]at c3_2
       refine aQ (aa fL3 @hv) ?_
       all_goals try(apply aq;repeat' first|exact ao|apply aa|(apply au;intro zb hc)|(apply ar;intro zb)|intro j')<;>try apply aw
       focus
        refine ay ((fun(k:Nat)=>p.length - k) (k+1)) (dC fL3 ?_) ⟨k+1,dC fL3 ?_⟩
        all_goals try(apply aq;repeat' first|exact ao|apply aa|(apply au;intro zb hc)|(apply ar;intro zb)|intro j')<;>try apply aw
       all_goals(first|(rw[e1,←c3_2];done)|(rw[e2];done)|(rw[e1,hT8,c3_0];done)|skip)
      |false=>
       have x2:=um (by omega) hv
       obtain⟨d,rfl⟩:∃e,d=e+1:=⟨d - 1,by omega⟩
       rw[wH,if_neg (by rw[hv];decide)]at c3_2
       refine aQ (aa fL3 @hv) ?_
       all_goals try(apply aq;repeat' first|exact ao|apply aa|(apply au;intro zb hc)|(apply ar;intro zb)|intro j')<;>try apply aw
       focus
        refine ay ((fun(d:Nat) (v:List Bool) (x:Nat)=>d) (d) (v.set x true) ((p.getD x 0 - 1).toNat)) (dC fL3 ?_) ⟨d,v.set x true,(p.getD x 0 - 1).toNat,dC fL3 ?_⟩
        all_goals try(apply aq;repeat' first|exact ao|apply aa|(apply au;intro zb hc)|(apply ar;intro zb)|intro j')<;>try apply aw
   ·obtain rfl:k=p.length:=by omega
    refine aQ fL1 ?_
    all_goals try(apply aq;repeat' first|exact ao|apply aa|(apply au;intro zb hc)|(apply ar;intro zb)|intro j')<;>try apply aw
  all_goals(first|(simp[js];done)|skip)
 ·rw[El,if_neg h]
  rw[aI]at h
  refine fO bA [2] Tryz.func44 ?_
  have cE1:= @aA
  refine aQ @h ?_
  all_goals try(apply aq;repeat' first|exact ao|apply aa|(apply au;intro zb hc)|(apply ar;intro zb)|intro j')<;>try apply aw
theorem fu {m0:Bool} (p:List Int) (hl:p.length≤1048576):Fun Tryz.prog 30 [(.sl (.lent m0) (List.map (PV.int .i64) (p)))] [(.int .i64 (El p))]:=by
 by_cases h:al p=true
 ·obtain⟨h8,hq⟩:=aK h
  rw[El,if_pos h]
  refine fO bA [2] Tryz.func30 ?_
  have cE1:= @aD
  refine aQ @h ?_
  all_goals try(apply aq;repeat' first|exact ao|apply aa|(apply au;intro zb hc)|(apply ar;intro zb)|intro j')<;>try apply aw
  refine az (fun ms1 S1=>∃(k:Nat),S1.e 0=.p (.sl (.lent m0) (List.map (PV.int .i64) (p)))∧S1.e 3=.p (.int .i64 ((js p k).2))∧OwnL (S1.e 4) S1.h S1.n PV.bool (((js p k).1).length) ((js p k).1)∧S1.e 5=.p (.int .i64 (k))∧(k≤p.length)∧ms1=p.length - k) ((fun(k:Nat)=>p.length - k) (0)) ?_ ⟨0,dC trivial ?_⟩
  all_goals try(apply aq;repeat' first|exact ao|apply aa|(apply au;intro zb hc)|(apply ar;intro zb)|intro j')<;>try apply aw
  rintro ms1 S1 ⟨k,h1_0,h1_3,o1_4,h1_5,c1_0,hm1⟩
  obtain⟨i1_4,h1_4,b1_4,l1_4⟩:=o1_4.out
  have ni1_4:=bi (x:=i1_4) (n:=S1.n)
  have fL1:=(aa h1_0 (aa h1_3 (aa h1_5 (aa h1_4 (aa b1_4 ni1_4)))))
  ·obtain⟨q1,q2,q3⟩:=zg (p:=p) (k:=k)
   by_cases hk:k<p.length
   ·have e0:js p (k+1)=if(js p k).1.getD k false=true then js p k else(wH p p.length (js p k).1 k,(js p k).2+1):=rfl
    have e1:(js p (k+1)).1=wH p p.length (js p k).1 k:=by
     rw[e0];split
     ·rename_i g;exact(oB g).symm
     ·rfl
    have e2:(js p (k+1)).2=if(js p k).1.getD k false=true then(js p k).2 else(js p k).2+1:=by rw[e0];split<;>rfl
    generalize hV:(js p k).1=V at*
    generalize hC:(js p k).2=C at*
    obtain⟨T,hT⟩:∃T,wH p p.length V k=T:=⟨_,rfl⟩
    rw[hT]at e1
    have hT8:T.length=p.length:=by rw[←hT,pL,q1]
    have fle:=DU (v:=V)
    cases hb:V.getD k false with
    |true=>
     rw[hb,if_pos rfl]at e2
     rw[oB hb]at hT
     refine aQ (aa fL1 @hb) ?_
     all_goals try(apply aq;repeat' first|exact ao|apply aa|(apply au;intro zb hc)|(apply ar;intro zb)|intro j')<;>try apply aw
     focus
      refine ay ((fun(k:Nat)=>p.length - k) (k+1)) (dC fL1 ?_) ⟨k+1,dC fL1 ?_⟩
      all_goals try(apply aq;repeat' first|exact ao|apply aa|(apply au;intro zb hc)|(apply ar;intro zb)|intro j')<;>try apply aw
     all_goals(first|(rw[e1,←hT];done)|(rw[e2];done)|(rw[e1,hT8,q1];done)|skip)
    |false=>
     rw[hb,if_neg (by decide)]at e2
     refine aQ (aa fL1 @hb) ?_
     all_goals try(apply aq;repeat' first|exact ao|apply aa|(apply au;intro zb hc)|(apply ar;intro zb)|intro j')<;>try apply aw
     refine az (fun ms3 S3=>∃(d:Nat) (v:List Bool) (x:Nat),S3.e 0=.p (.sl (.lent m0) (List.map (PV.int .i64) (p)))∧OwnL (S3.e 4) S3.h S3.n PV.bool ((v).length) (v)∧S3.e 3=.p (.int .i64 ((C+1)))∧S3.e 5=.p (.int .i64 (k))∧S3.e 6=.p (.int .i64 (x))∧(v.length=p.length)∧(x<p.length)∧(wH p d v x=T)∧(Np v≤d)∧S1.n≤S3.n∧ms3=d) ((fun(d:Nat) (v:List Bool) (x:Nat)=>d) (p.length) (V) (k)) ?_ ⟨p.length,V,k,dC fL1 ?_⟩
     all_goals try(apply aq;repeat' first|exact ao|apply aa|(apply au;intro zb hc)|(apply ar;intro zb)|intro j')<;>try apply aw
     rintro ms3 S3 ⟨d,v,x,h3_0,o3_4,h3_3,h3_5,h3_6,c3_0,c3_1,c3_2,c3_3,u3_0,hm3⟩
     obtain⟨i3_4,h3_4,b3_4,l3_4⟩:=o3_4.out
     have ni3_4:=bi (x:=i3_4) (n:=S3.n)
     have fL3:=(aa h3_0 (aa h3_3 (aa h3_5 (aa h3_6 (aa h3_4 (aa b3_4 ni3_4))))))
     ·have x1:=(permB_iff.1 hq).1 _ (aF (l:=p) (i:=x) (d:=0) (by omega))
      cases hv:v.getD x false with
      |true=>
       rw[oB hv]at c3_2
       refine aQ (aa fL3 @hv) ?_
       all_goals try(apply aq;repeat' first|exact ao|apply aa|(apply au;intro zb hc)|(apply ar;intro zb)|intro j')<;>try apply aw
       focus
        refine ay ((fun(k:Nat)=>p.length - k) (k+1)) (dC fL3 ?_) ⟨k+1,dC fL3 ?_⟩
        all_goals try(apply aq;repeat' first|exact ao|apply aa|(apply au;intro zb hc)|(apply ar;intro zb)|intro j')<;>try apply aw
       all_goals(first|(rw[e1,←c3_2];done)|(rw[e2];done)|(rw[e1,hT8,c3_0];done)|skip)
      |false=>
       have x2:=um (by omega) hv
       obtain⟨d,rfl⟩:∃e,d=e+1:=⟨d - 1,by omega⟩
       rw[wH,if_neg (by rw[hv];decide)]at c3_2
       refine aQ (aa fL3 @hv) ?_
       all_goals try(apply aq;repeat' first|exact ao|apply aa|(apply au;intro zb hc)|(apply ar;intro zb)|intro j')<;>try apply aw
       focus
        refine ay ((fun(d:Nat) (v:List Bool) (x:Nat)=>d) (d) (v.set x true) ((p.getD x 0 - 1).toNat)) (dC fL3 ?_) ⟨d,v.set x true,(p.getD x 0 - 1).toNat,dC fL3 ?_⟩
        all_goals try(apply aq;repeat' first|exact ao|apply aa|(apply au;intro zb hc)|(apply ar;intro zb)|intro j')<;>try apply aw
   ·obtain rfl:k=p.length:=by omega
    refine aQ fL1 ?_
    all_goals try(apply aq;repeat' first|exact ao|apply aa|(apply au;intro zb hc)|(apply ar;intro zb)|intro j')<;>try apply aw
  all_goals(first|(simp[js];done)|skip)
 ·rw[El,if_neg h]
  rw[aI]at h
  refine fO bA [2] Tryz.func30 ?_
  have cE1:= @aD
  refine aQ @h ?_
  all_goals try(apply aq;repeat' first|exact ao|apply aa|(apply au;intro zb hc)|(apply ar;intro zb)|intro j')<;>try apply aw
theorem ml {m0:Bool} (b:List UInt8):Fun Tryz.prog 9 [(.sl (.lent m0) (List.map kA (b)))] [(.bool (decide ((1048576:Int)<b.length)))]:=by
 refine fO bA [2] Tryz.func9 ?_
 refine aQ trivial ?_
 all_goals try(apply aq;repeat' first|exact ao|apply aa|(apply au;intro zb hc)|(apply ar;intro zb)|intro j')<;>try apply aw
def WX (p:List Int):List Int:=if al p then bS p else[]
theorem jB {m0:Bool} (p:List Int) (hl:p.length≤1048576):Fun Tryz.prog 49 [(.sl (.lent m0) (List.map (PV.int .i64) (p)))] [(.sl .own (List.map (PV.int .i64) (WX p)))]:=by
 by_cases hp:al p=true
 ·refine fO bA [2] Tryz.func49 ?_
  have cE1:= @aA;have cE2:= @oM
  refine aQ @hp ?_
  all_goals try(apply aq;repeat' first|exact ao|apply aa|(apply au;intro zb hc)|(apply ar;intro zb)|intro j')<;>try apply aw
  rw[WX,if_pos hp]
 ·rw[aI]at hp
  refine fO bA [2] Tryz.func49 ?_
  have cE1:= @aA;have cE2:= @oM
  refine aQ @hp ?_
  all_goals try(apply aq;repeat' first|exact ao|apply aa|(apply au;intro zb hc)|(apply ar;intro zb)|intro j')<;>try apply aw
  rw[WX,hp];rfl
def lO:List Int→Int
 |[]=>0
 |x::l=>max x (lO l)
theorem qB {x:Int} (hx:0≤x):∀{l:List Int},lO (l++[x])=max (lO l) x
 |[]=>by simp only[aR,lO];omega
 |y::l=>by rw[List.cons_append,lO,lO,qB hx];omega
theorem ka:∀{l:List Int},0≤lO l∧∀x∈l,x≤lO l
 |[]=>by simp[lO]
 |y::l=>by
  have h:=ka (l:=l)
  rw[lO]
  refine⟨by omega,fun x hx=> ?_⟩
  rcases List.mem_cons.1 hx with q|q
  ·omega
  ·have:=h.2 x q;omega
theorem qC {B:Int} (hB:0≤B):∀{l:List Int},(∀x∈l,x≤B)→lO l≤B
 |[],_=>hB
 |y::l,h=>by
  have h1:=h y List.mem_cons_self
  have h2:=qC hB fun x hx=>h x (aY _ hx)
  rw[lO];omega
end Go.Gl
