/-
  What the functions compute, and what the law asks of it: texts joined. Conditions: those that each lemma names.
-/
import Derived.Test.YtbppfpdgahopeaaGreatDoorT3
import Derived.Test.YtbppfpdgahopeaaGreatDoorT1
import Derived.Test.YtbppfpdgahopeaaGreatDoorGlC
set_option linter.unusedSimpArgs false
set_option linter.unusedVariables false
set_option maxRecDepth 20000
set_option linter.unusedSectionVars false
set_option maxHeartbeats 16000000
namespace Go.Gl
open Go Go.Proofs
variable [Amb] [NoQ]
theorem xf {l:List Int} {a:Int} (hn:l.Nodup) (hb:∀x∈l,a<x∧x≤a+l.length) {x:Int} (hx:x∈l):((l.filter fun y=>decide (y<x)).length:Int)=x - a - 1:=by
 have h1:=hb x hx
 have h2:(l.filter fun y=>decide (y<x)).length≤(x - a - 1).toNat:=kr (a:=a) (List.Nodup.sublist List.filter_sublist hn) fun y hy=>by
  simp only[List.mem_filter,decide_eq_true_eq]at hy
  have:=hb y hy.1;omega
 have h3:(l.filter fun y=> !decide (y<x)).length≤(a+l.length - (x - 1)).toNat:=kr (a:=x - 1) (List.Nodup.sublist List.filter_sublist hn) fun y hy=>by
  simp only[List.mem_filter,Bool.not_eq_true',decide_eq_false_iff_not]at hy
  have:=hb y hy.1;omega
 have h4:=mK (fun y=>decide (y<x)) l
 omega
theorem wv {l:List Int} {a:Int} (hn:l.Nodup) (hb:∀x∈l,a<x∧x≤a+l.length):lC l=l.map fun x=>x+ -a:=by
 refine List.map_congr_left fun x hx=> ?_
 rw[pP,List.take_length,xf hn hb hx];omega
theorem Di {p:List Int} {x:Int} {a b:Nat} (h:x∈dA p a b):∃j,a≤j∧j<b∧j<p.length∧p.getD j 0=x:=by
 obtain⟨i,hi,rfl⟩:=List.getElem_of_mem h
 simp only[dA,List.length_drop,List.length_take]at hi
 refine⟨a+i,by omega,by omega,by omega, ?_⟩
 simp only[dA,List.getElem_drop,List.getElem_take,List.getD_eq_getElem?_getD]
 rw[List.getElem?_eq_getElem (by omega)];rfl
theorem tD {p:List Int} {g:List Int→Nat→List Int}:∀{k:Nat},k≤p.length→∀j,j<k→p.getD j 0≤(dg g p k).2.2
 |k+1,h,j,hj=>by
  have ih:=tD (g:=g) (p:=p) (k:=k) (by omega)
  have e:(dg g p (k+1)).2.2=max (dg g p k).2.2 (p.getD k 0):=by rw[dg];split<;>rfl
  rw[e]
  by_cases hk:j=k
  ·subst hk;omega
  ·have:=ih j (by omega);omega
theorem uj {p:List Int} {g:List Int→Nat→List Int} (hp:aU p=true):∀{k:Nat},k≤p.length→∀j,j<(dg g p k).2.1→p.getD j 0≤(dg g p k).2.1
 |0,_,j,hj=>by simp[dg]at hj
 |k+1,h,j,hj=>by
  rw[dg]at hj ⊢
  split at hj
  ·rename_i e
   rw[if_pos e]
   simp only at hj ⊢
   have:=tD (g:=g) h j hj
   have e2:(dg g p (k+1)).2.2=max (dg g p k).2.2 (p.getD k 0):=by rw[dg];split<;>rfl
   push_cast;omega
  ·rename_i e
   rw[if_neg e]
   exact uj hp (by omega) j hj
theorem lF {p:List Int} (h:p.Nodup) {a b:Nat}:(dA p a b).Nodup:=List.Nodup.sublist ((List.drop_sublist _ _).trans (List.take_sublist _ _)) h
theorem BW {p:List Int} (hp:aU p=true) {f b:Nat} (hb:b≤p.length) (hf:f≤b) (h1:∀j,j<f→p.getD j 0≤f) (h2:∀j,j<b→p.getD j 0≤b):∀x∈dA p f b,(f:Int)<x∧x≤f+(dA p f b).length:=by
 intro x hx
 obtain⟨j,j1,j2,j3,rfl⟩:=Di hx
 have hq:=permB_iff.1 hp
 rw[ft hb]
 refine⟨?_,by have:=h2 j j2;omega⟩
 by_cases hlt:(f:Int)<p.getD j 0
 ·exact hlt
 ·exfalso
  have l1:(p.getD j 0::p.take f).length≤f:=kr (a:=0) (by
   rw[List.nodup_cons]
   refine⟨fun hm=> ?_,List.Nodup.sublist (List.take_sublist _ _) hq.2⟩
   obtain⟨i,hi,e⟩:=List.getElem_of_mem hm
   rw[List.getElem_take]at e
   have e2:p[i]'(by simp at hi;omega)=p[j]:=by rw[e,List.getD_eq_getElem?_getD,List.getElem?_eq_getElem j3];rfl
   have:=(List.getElem_inj hq.2).1 e2
   simp at hi;omega) fun x hx=>by
   rcases List.mem_cons.1 hx with rfl|hx
   ·have:=hq.1 _ (ar (d:=0) j3);omega
   ·obtain⟨i,hi,rfl⟩:=List.getElem_of_mem hx
    simp at hi
    have m1:=h1 i (by omega)
    rw[List.getElem_take]
    rw[List.getD_eq_getElem?_getD,List.getElem?_eq_getElem (by omega)]at m1
    have m2:=hq.1 _ (List.getElem_mem (l:=p) (show i<p.length by omega))
    simp only[Option.getD_some]at m1
    omega
  simp at l1;omega
theorem BD {p:List Int} (hp:aU p=true):∀{k:Nat},k≤p.length→dg lz p k=dg lu p k
 |0,_=>rfl
 |k+1,h=>by
  have ih:=BD hp (k:=k) (by omega)
  rw[dg,dg,ih]
  split
  ·rename_i e
   have hm:=tD (g:=lu) h
   have e2:(dg lu p (k+1)).2.2=max (dg lu p k).2.2 (p.getD k 0):=by rw[dg];split<;>rfl
   have hf:=(gf (g:=lu) (p:=p) (k:=k)).1
   have hx:=BW hp (f:=(dg lu p k).2.1) (b:=k+1) h (by omega) (uj hp (by omega)) (fun j hj=>by have:=hm j hj;push_cast;omega)
   have:lz (dA p (dg lu p k).2.1 (k+1)) (dg lu p k).2.1=lu (dA p (dg lu p k).2.1 (k+1)) (dg lu p k).2.1:=wv (lF (permB_iff.1 hp).2) hx
   rw[this]
  ·rfl
theorem nO {L:List (List Int)} {k:Nat} (h:k<L.length):(L.take (k+1)).flatten=(L.take k).flatten++L.getD k []:=by
 rw[az (d:=[]) h,List.flatten_append];simp
theorem tP {L:List (List Int)} {n:Nat} (hl:∀l∈L,l.length≤n):∀{k:Nat},k≤L.length→(L.take k).flatten.length≤k*n
 |0,_=>by simp
 |k+1,h=>by
  have h1:=tP hl (k:=k) (by omega)
  have h2:=hl _ (ar (d:=[]) (show k<L.length by omega))
  rw[nO (by omega),List.length_append,Nat.succ_mul];omega
def wn:FuncId→List Bool:=fun f=>if f=225 then[true]else[]
theorem E5 {f:FuncId}:wn f=if f=225 then[true]else[]:=_root_.id rfl
theorem A0:fJ wn=false∧ga wn=false∧f9 wn=false∧f8 wn=false∧gb wn=false:=⟨rfl,rfl,rfl,rfl,rfl⟩
attribute [go_sem] E5 A0
theorem cS {e0 m0:Bool} (L:List (List Int)) (hL:L.length≤1000) (hl:∀l∈L,l.length≤1000):Fun Tryz.prog 214 [(.sl (.lent m0) (List.map (bt e0) (L)))] [(.sl .own (List.map (PV.int .i64) (L.flatten)))]:=by
 refine fO wn [2] Tryz.func214 ?_
 refine ax trivial ?_
 all_goals try(apply ai;repeat' first|exact ah|apply aa|(apply ak;intro zb hc)|(apply aj;intro zb)|intro j')<;>try apply al
 refine an (fun ms1 S1=>∃(k:Nat),S1.e 0=.p (.sl (.lent m0) (List.map (bt e0) (L)))∧S1.e 9=.p (.sl (.lent m0) (List.map (bt e0) (L)))∧S1.e 10=.p (.int .i64 (L.length))∧S1.e 11=.p (.int .i64 (k))∧S1.e 3=.p (.int .i64 ((L.take k).flatten.length))∧(k≤L.length)∧ms1=L.length - k) ((fun(k:Nat)=>L.length - k) (0)) ?_ ⟨0,dI trivial ?_⟩
 all_goals try(apply ai;repeat' first|exact ah|apply aa|(apply ak;intro zb hc)|(apply aj;intro zb)|intro j')<;>try apply al
 rintro ms1 S1 ⟨k,h1_0,h1_9,h1_10,h1_11,h1_3,c1_0,hm1⟩
 have fL1:=(aa h1_0 (aa h1_9 (aa h1_10 (aa h1_11 h1_3))))
 have b1:=tP hl c1_0
 have b2:=Nat.mul_le_mul c1_0 (Nat.le_refl 1000)
 have b3:k<L.length→(L.getD k []).length≤1000:=fun h=>hl _ (ar h)
 have cX1:= @rz
 refine dE fL1 ?_
 all_goals try(apply ai;repeat' first|exact ah|apply aa|(apply ak;intro zb hc)|(apply aj;intro zb)|intro j')<;>try apply al
 all_goals try have b4:=b3 (by omega)
 all_goals try exact gZ
 ·focus
   refine am ((fun(k:Nat)=>L.length - k) (k+1)) (dC fL1 ?_) ⟨k+1,dC fL1 ?_⟩
   all_goals try(apply ai;repeat' first|exact ah|apply aa|(apply ak;intro zb hc)|(apply aj;intro zb)|intro j')<;>try apply al
  rw[nO (by omega),List.length_append];push_cast;rfl
 ·refine an (fun ms2 S2=>∃(j:Nat),S2.e 25=.p (.sl (.lent m0) (List.map (bt e0) (L)))∧S2.e 26=.p (.int .i64 (L.length))∧S2.e 27=.p (.int .i64 (j))∧OwnL (S2.e 6) S2.h S2.n (PV.int .i64) (((L.take j).flatten).length) ((L.take j).flatten)∧(j≤L.length)∧S1.n≤S2.n∧ms2=L.length - j) ((fun(j:Nat)=>L.length - j) (0)) ?_ ⟨0,dI fL1 ?_⟩
  all_goals try(apply ai;repeat' first|exact ah|apply aa|(apply ak;intro zb hc)|(apply aj;intro zb)|intro j')<;>try apply al
  rintro ms2 S2 ⟨j,h2_25,h2_26,h2_27,o2_6,c2_0,u2_0,hm2⟩
  obtain⟨i2_6,h2_6,b2_6,l2_6⟩:=o2_6.out
  have ni2_6:=aG (x:=i2_6) (n:=S2.n)
  have fL2:=(aa h2_25 (aa h2_26 (aa h2_27 (aa h2_6 (aa b2_6 ni2_6)))))
  have b5:=tP hl c2_0
  have b6:=Nat.mul_le_mul c2_0 (Nat.le_refl 1000)
  have b7:j<L.length→(L.getD j []).length≤1000:=fun h=>hl _ (ar h)
  have cX1:=trivial
  refine dE fL2 ?_
  all_goals try(apply ai;repeat' first|exact ah|apply aa|(apply ak;intro zb hc)|(apply aj;intro zb)|intro j')<;>try apply al
  all_goals try have b8:=b7 (by omega)
  all_goals try exact gZ
  ·focus
    refine am ((fun(j:Nat)=>L.length - j) (j+1)) (dC fL2 ?_) ⟨j+1,dC fL2 ?_⟩
    all_goals try(apply ai;repeat' first|exact ah|apply aa|(apply ak;intro zb hc)|(apply aj;intro zb)|intro j')<;>try apply al
   all_goals(rw[nO (by omega)]<;>simp only[List.length_append])
  ·rw[List.take_of_length_le (by omega)]
theorem cc2 {m e1 e2:Bool} (a b:List Int) (ha:a.length≤1000) (hb:b.length≤1000):Fun Tryz.prog 214 [.sl (.lent m) [.sl (.lent e1) (a.map (PV.int .i64)),.sl (.lent e2) (b.map (PV.int .i64))]] [.sl .own ((a++b).map (PV.int .i64))]:=by
 have h:=cS (m0:=true) (e0:=true) [a,b] (by simp) (fun l hl=>by simp at hl;rcases hl with rfl|rfl<;>assumption)
 simp only[List.flatten_cons,List.flatten_nil,List.append_nil]at h
 refine Fun.wk ?_ h
 have hi:∀a:Int,wk (PV.int .i64 a)=PV.int .i64 a:=fun _=>rfl
 cases m<;>cases e1<;>cases e2<;>simp[wkL,wk,Fl.lent,xy hi,bt]
def m6 (a b:List Int) (skew:Bool):List Int:=if skew then a.map (fun x=>x+(b.length:Int))++b else a++b.map (fun x=>x+(a.length:Int))
theorem pu {a b:List Int} {k:Bool}:(m6 a b k).length=a.length+b.length:=by cases k<;>simp[m6]
theorem wO {m0 m1:Bool} (a:List Int) (b:List Int) (k:Bool) (h1:a.length≤1000) (h2:b.length≤1000) (h3:∀x∈a, -1000000≤x∧x≤1000000) (h4:∀x∈b, -1000000≤x∧x≤1000000):Fun Tryz.prog 192 [(.sl (.lent m0) (List.map (PV.int .i64) (a))),(.sl (.lent m1) (List.map (PV.int .i64) (b))),(.bool (k))] [(.sl .own (List.map (PV.int .i64) (m6 a b k)))]:=by
 refine fO aR [6] Tryz.func192 ?_
 have cE1:= @iZ;have cE2:= @cS
 have cE1:= @cc2;have cE2:= @iZ;have cE3:= @cS
 refine ax trivial ?_
 all_goals try(apply ai;repeat' first|exact ah|apply aa|(apply ak;intro zb hc)|(apply aj;intro zb)|intro j')<;>try apply al
 all_goals(subst hc;simp[m6])
theorem vW {a b:List Int} {n:Nat} (ha:aU a=true) (hb:aU b=true) (e:n=b.length):(a.map fun x=>x+(n:Int)).Nodup∧(∀x∈a.map fun x=>x+(n:Int),(b.length:Int)<x∧x≤a.length+b.length):=by
 subst e
 obtain⟨a1,a2⟩:=permB_iff.1 ha
 refine⟨np a2 fun x _ y _ h=>by omega,fun x hx=> ?_⟩
 obtain⟨y,hy,rfl⟩:=List.mem_map.1 hx
 have:=a1 y hy
 omega
theorem y8 {a b:List Int} {k:Bool} (ha:aU a=true) (hb:aU b=true):aU (m6 a b k)=true:=by
 rw[permB_iff,pu]
 obtain⟨a1,a2⟩:=permB_iff.1 ha
 obtain⟨b1,b2⟩:=permB_iff.1 hb
 cases k
 ·obtain⟨h1,h2⟩:=vW (n:=a.length) hb ha rfl
  simp only[m6,Bool.false_eq_true,if_false]
  refine⟨fun x hx=> ?_,List.nodup_append.2 ⟨a2,h1,fun x hx y hy e=> ?_⟩⟩
  ·rcases List.mem_append.1 hx with hx|hx
   ·have:=a1 x hx;omega
   ·have:=h2 x hx;omega
  ·have:=a1 x hx;have:=h2 y hy;omega
 ·obtain⟨h1,h2⟩:=vW (n:=b.length) ha hb rfl
  simp only[m6,if_true]
  refine⟨fun x hx=> ?_,List.nodup_append.2 ⟨h1,b2,fun x hx y hy e=> ?_⟩⟩
  ·rcases List.mem_append.1 hx with hx|hx
   ·have:=h2 x hx;omega
   ·have:=b1 x hx;omega
  ·have:=h2 x hx;have:=b1 y hy;omega
def dK (L:List (List Int)) (k:Bool):List Int:=L.foldl (fun t p=>m6 t p k) []
theorem ii {L:List (List Int)} {k:Bool} {j:Nat} (h:j<L.length):dK (L.take (j+1)) k=m6 (dK (L.take j) k) (L.getD j []) k:=by
 rw[az (d:=[]) h,dK,List.foldl_append];rfl
def cn (L:List (List Int)):Nat:=(L.map List.length).sum
theorem gV {L:List (List Int)} {j:Nat} (h:j<L.length):cn (L.take (j+1))=cn (L.take j)+(L.getD j []).length:=by
 rw[az (d:=[]) h,cn,List.map_append,List.sum_append];simp[cn]
theorem kS {L:List (List Int)} {k:Bool}:∀{j:Nat},j≤L.length→(dK (L.take j) k).length=cn (L.take j)
 |0,_=>rfl
 |j+1,h=>by rw[ii (by omega),gV (by omega),pu,kS (by omega)]
theorem lJ {L:List (List Int)} {k:Bool} (hL:∀l∈L,aU l=true):∀{j:Nat},j≤L.length→aU (dK (L.take j) k)=true
 |0,_=>by rfl
 |j+1,h=>by rw[ii (by omega)];exact y8 (lJ hL (by omega)) (hL _ (ar (by omega)))
theorem eS {L:List (List Int)}:∀{j:Nat},cn (L.take j)≤cn L:=fun {j}=>by
 have:cn L=cn (L.take j)+cn (L.drop j):=by
  unfold cn;rw[←List.sum_append,←List.map_append,List.take_append_drop]
 omega
theorem zT {L:List (List Int)}:∀{j:Nat},cn (L.drop j)≤cn L:=fun {j}=>by
 have:cn L=cn (L.take j)+cn (L.drop j):=by
  unfold cn;rw[←List.sum_append,←List.map_append,List.take_append_drop]
 omega
theorem uW {L:List (List Int)} {l:List Int} (h:l∈L):l.length≤cn L:=by
 induction L with
 |nil=>cases h
 |cons x L ih=>
  have e:cn (x::L)=x.length+cn L:=by simp[cn]
  rcases List.mem_cons.1 h with rfl|h
  ·omega
  ·have:=ih h;omega
theorem yg {L:List (List Int)} {k:Bool} (hl:∀l∈L,l.length≤8) (hb:∀l∈L,∀x∈l,0≤x∧x≤8):∀{j:Nat},j≤L.length→j≤8→(dK (L.take j) k).length≤8*j∧∀x∈dK (L.take j) k,0≤x∧x≤100*j
 |0,_,_=>⟨Nat.zero_le _,fun x hx=>by cases hx⟩
 |j+1,h,h8=>by
  obtain⟨h1,h2⟩:=yg (k:=k) hl hb (j:=j) (by omega) (by omega)
  have h3:=hl _ (ar (d:=[]) (show j<L.length by omega))
  have h4:=hb _ (ar (d:=[]) (show j<L.length by omega))
  rw[ii (by omega)]
  refine⟨by rw[pu];omega,fun x hx=> ?_⟩
  cases k
  ·simp only[m6,Bool.false_eq_true,if_false,List.mem_append,List.mem_map]at hx
   rcases hx with hx|⟨y,hy,rfl⟩
   ·have:=h2 x hx;omega
   ·have:=h4 y hy;omega
  ·simp only[m6,if_true,List.mem_append,List.mem_map]at hx
   rcases hx with⟨y,hy,rfl⟩|hx
   ·have:=h2 y hy;omega
   ·have:=h4 x hx;omega
theorem nH {e0 m0:Bool} (L:List (List Int)) (k:Bool) (hL:L.length≤8) (hl:∀l∈L,l.length≤8) (hb:∀l∈L,∀x∈l,0≤x∧x≤8):Fun Tryz.prog 167 [(.sl (.lent m0) (List.map (bt e0) (L))),(.bool (k))] [(.sl .own (List.map (PV.int .i64) (dK L k)))]:=by
 refine fO aR [4] Tryz.func167 ?_
 have cE1:= @wO
 refine ax trivial ?_
 all_goals try(apply ai;repeat' first|exact ah|apply aa|(apply ak;intro zb hc)|(apply aj;intro zb)|intro j')<;>try apply al
 refine an (fun ms1 S1=>∃(j:Nat),S1.e 1=.p (.bool (k))∧S1.e 9=.p (.sl (.lent m0) (List.map (bt e0) (L)))∧S1.e 10=.p (.int .i64 (L.length))∧S1.e 11=.p (.int .i64 (j))∧OwnL (S1.e 5) S1.h S1.n (PV.int .i64) ((dK (L.take j) k).length) (dK (L.take j) k)∧(j≤L.length)∧ms1=L.length - j) ((fun(j:Nat)=>L.length - j) (0)) ?_ ⟨0,dI trivial ?_⟩
 all_goals try(apply ai;repeat' first|exact ah|apply aa|(apply ak;intro zb hc)|(apply aj;intro zb)|intro j')<;>try apply al
 rintro ms1 S1 ⟨j,h1_1,h1_9,h1_10,h1_11,o1_5,c1_0,hm1⟩
 obtain⟨i1_5,h1_5,b1_5,l1_5⟩:=o1_5.out
 have ni1_5:=aG (x:=i1_5) (n:=S1.n)
 have fL1:=(aa h1_1 (aa h1_9 (aa h1_10 (aa h1_11 (aa h1_5 (aa b1_5 ni1_5))))))
 obtain⟨b1,b2⟩:=yg (k:=k) hl hb c1_0 (by omega)
 have b3:j<L.length→(L.getD j []).length≤8∧∀x∈L.getD j [],0≤x∧x≤8:=fun h=>⟨hl _ (ar h),hb _ (ar h)⟩
 have b4:∀x∈dK (L.take j) k, -1000000≤x∧x≤1000000:=fun x hx=>by have:=b2 x hx;omega
 refine dE fL1 ?_
 all_goals try(apply ai;repeat' first|exact ah|apply aa|(apply ak;intro zb hc)|(apply aj;intro zb)|intro j')<;>try apply al
 all_goals try have b5:=(b3 (by omega)).1
 all_goals try have b6:=(b3 (by omega)).2
 all_goals try have b7:∀x∈L.getD j [], -1000000≤x∧x≤1000000:=fun x hx=>by have:=b6 x hx;omega
 all_goals try exact gZ
 ·focus
   refine am ((fun(j:Nat)=>L.length - j) (j+1)) (dC fL1 ?_) ⟨j+1,dC fL1 ?_⟩
   all_goals try(apply ai;repeat' first|exact ah|apply aa|(apply ak;intro zb hc)|(apply aj;intro zb)|intro j')<;>try apply al
  all_goals(rw[ii (by omega)])
 ·rw[List.take_of_length_le (by omega)]
def aN (p:List Int):List (List Int):=(dg lu p p.length).1
def qc (L:List (List Int)) (j:Nat):List (List Int):=(L.take j).map ct++L.drop j
theorem p9 {L:List (List Int)} {j:Nat}:(qc L j).length=L.length:=by simp[qc];omega
theorem Gh {L:List (List Int)} {j:Nat} (h:j<L.length):(qc L j).getD j []=L.getD j []:=by
 simp only[qc,List.getD_eq_getElem?_getD]
 rw[List.getElem?_append_right (by simp;omega)]
 simp[Nat.min_eq_left (Nat.le_of_lt h)]
theorem CF {L:List (List Int)} {j:Nat} (h:j<L.length):(qc L j).set j (ct (L.getD j []))=qc L (j+1):=by
 simp only[qc]
 rw[List.set_append_right _ _ (by simp;omega),List.length_map,List.length_take,Nat.min_eq_left (by omega),Nat.sub_self,az (d:=[]) h]
 rw[show L.drop j=L.getD j []::L.drop (j+1)by rw[List.getD_eq_getElem?_getD,List.getElem?_eq_getElem h];exact(List.drop_eq_getElem_cons h)]
 simp
theorem nc {p:List Int} (hp:aU p=true):∀{k:Nat},k≤p.length→(∀l∈(dg lz p k).1,aU l=true)∧cn (dg lz p k).1=(dg lz p k).2.1
 |0,_=>⟨fun l hl=>(by cases hl),rfl⟩
 |k+1,h=>by
  obtain⟨h1,h2⟩:=nc hp (k:=k) (by omega)
  have h3:=(gf (g:=lz) (p:=p) (k:=k)).1
  rw[dg]
  split
  ·refine⟨fun l hl=> ?_, ?_⟩
   ·rcases List.mem_append.1 hl with hl|hl
    ·exact h1 l hl
    ·simp only[List.mem_singleton]at hl;subst hl
     exact rV (lF (permB_iff.1 hp).2)
   ·simp only[cn]at h2 ⊢
    rw[List.map_append,List.sum_append,h2]
    simp[lz,jl,ft h];omega
  ·exact⟨h1,h2⟩
theorem jX {p:List Int} (hp:aU p=true):(dg lz p p.length).1=aN p:=by rw[aN,BD hp (Nat.le_refl _)]
theorem iJ {p:List Int} (hp:ae p=true):(∀l∈aN p,aU l=true)∧cn (aN p)≤8∧(aN p).length≤8∧(∀l∈aN p,ae l=true∧l.length≤8∧∀x∈l,0≤x∧x≤8):=by
 obtain⟨hl,hq⟩:=aw hp
 obtain⟨h1,h2⟩:=nc hq (Nat.le_refl _)
 have h3:=gf (g:=lz) (p:=p) (k:=p.length)
 rw[jX hq]at h1 h2 h3
 refine⟨h1,by omega,by omega,fun l hx=> ?_⟩
 have h4:=uW hx
 have h5:ae l=true:=by simp only[ae,h1 l hx,Bool.and_true,decide_eq_true_eq];omega
 exact⟨h5,by omega,fv h5⟩
theorem cX {p:List Int} (hp:ae p=true):ae (ct p)=true:=by
 obtain⟨hl,hq⟩:=aw hp
 simp only[ae,sC hq,fD,hl,decide_true,Bool.and_self]
def c3 (p:List Int):List (List Int):=(aN (ct p)).map ct
theorem nG {m0:Bool} (p:List Int) (hp:ae p=true):Fun Tryz.prog 168 [(.sl (.lent m0) (List.map (PV.int .i64) (p)))] [(.sl .own (List.map (bt false) (c3 p)))]:=by
 refine fO aR [2] Tryz.func168 ?_
 have cE1:= @iQ;have cE2:= @di
 have hl:=(aw hp).1
 have hq:=permB_iff.1 (aw hp).2
 have hb:=fv hp
 have b1:(ct p).length≤8:=by rw[fD];exact hl
 have b2:=fv (cX hp)
 have b3:=iJ (cX hp)
 have b4:∀x∈p,0≤x∧x≤1048576:=fun x hx=>by have:=hb x hx;omega
 have b5:(dg lu (ct p) (ct p).length).1=aN (ct p):=rfl
 refine ax @b5 ?_
 all_goals try(apply ai;repeat' first|exact ah|apply aa|(apply ak;intro zb hc)|(apply aj;intro zb)|intro j')<;>try apply al
 refine an (fun ms1 S1=>∃(j:Nat),OwnL (S1.e 3) S1.h S1.n (bt false) ((qc (aN (ct p)) j).length) (qc (aN (ct p)) j)∧S1.e 9=S1.e 3∧S1.e 10=.p (.int .i64 ((aN (ct p)).length))∧S1.e 11=.p (.int .i64 (j))∧(j≤(aN (ct p)).length)∧ms1=(aN (ct p)).length - j) ((fun(j:Nat)=>(aN (ct p)).length - j) (0)) ?_ ⟨0,dC trivial ?_⟩
 all_goals try(apply ai;repeat' first|exact ah|apply aa|(apply ak;intro zb hc)|(apply aj;intro zb)|intro j')<;>try apply al
 rintro ms1 S1 ⟨j,o1_3,h1_9,h1_10,h1_11,c1_0,hm1⟩
 obtain⟨i1_3,h1_3,b1_3,l1_3⟩:=o1_3.out
 have ni1_3:=aG (x:=i1_3) (n:=S1.n)
 have fL1:=(aa h1_9 (aa h1_10 (aa h1_11 (aa h1_3 (aa b1_3 ni1_3)))))
 have b6:=p9 (L:=aN (ct p)) (j:=j)
 have b7:j<(aN (ct p)).length→(qc (aN (ct p)) j).getD j []=(aN (ct p)).getD j []:=fun h=>Gh h
 have b8:j<(aN (ct p)).length→((aN (ct p)).getD j []).length≤8∧∀x∈(aN (ct p)).getD j [],0≤x∧x≤1048576:=fun h=>⟨(b3.2.2.2 _ (ar h)).2.1,fun x hx=>by have:=(b3.2.2.2 _ (ar h)).2.2 x hx;omega⟩
 by_cases hj:j<(aN (ct p)).length
 ·have b9:=b8 hj
  have b10:=b7 hj
  rw[←b10]at b9
  have b11:=b9.1
  have b12:=b9.2
  refine ax fL1 ?_
  all_goals try(apply ai;repeat' first|exact ah|apply aa|(apply ak;intro zb hc)|(apply aj;intro zb)|intro j')<;>try apply al
  focus
   refine am ((fun(j:Nat)=>(aN (ct p)).length - j) (j+1)) (dC fL1 ?_) ⟨j+1,dC fL1 ?_⟩
   all_goals try(apply ai;repeat' first|exact ah|apply aa|(apply ak;intro zb hc)|(apply aj;intro zb)|intro j')<;>try apply al
  all_goals(first|(rw[b10,CF hj])|(rw[p9,p9]))
 ·refine ax fL1 ?_
  all_goals try(apply ai;repeat' first|exact ah|apply aa|(apply ak;intro zb hc)|(apply aj;intro zb)|intro j')<;>try apply al
  obtain rfl:j=(aN (ct p)).length:=by omega
  simp[qc,c3]
theorem ru {m0 m1:Bool} (a:List Int) (b:List Int) (k:Bool) (h1:a.length≤1000) (h2:b.length≤1000) (h3:∀x∈a, -1000000≤x∧x≤1000000) (h4:∀x∈b, -1000000≤x∧x≤1000000):Fun Tryz.prog 212 [(.sl (.lent m0) (List.map (PV.int .i64) (a))),(.sl (.lent m1) (List.map (PV.int .i64) (b))),(.bool (k))] [(.sl .own (List.map (PV.int .i64) (m6 a b k)))]:=by
 refine fO aR [6] Tryz.func212 ?_
 have cE1:= @dN;have cD1:=gY [false,false,false,false,false,false,true,false,false,false,false,true,true,false] [(0,6),(1,6),(2,6),(3,6),(4,6),(6,7),(6,8),(0,11)];have cD2:=gY [false,false,false,false,false,false,false,true,false,false,false,false,true,true,false] [(0,7),(1,7),(2,7),(3,7),(4,7),(7,8),(7,9),(0,12)]
 have e1:db k=if k then 1 else 0:=rfl
 refine ax trivial ?_
 all_goals try(apply ai;repeat' first|exact ah|apply aa|(apply ak;intro zb hc)|(apply aj;intro zb)|intro j')<;>try apply al
 refine an (fun ms1 S1=>∃(i:Nat),S1.e 0=.p (.sl (.lent m0) (List.map (PV.int .i64) (a)))∧S1.e 1=.p (.sl (.lent m1) (List.map (PV.int .i64) (b)))∧S1.e 2=.p (.bool (k))∧S1.e 8=.p (.int .i64 (i))∧OwnL (S1.e 7) S1.h S1.n (PV.int .i64) (((a.take i).map (fun x=>x+db k*b.length)).length) ((a.take i).map (fun x=>x+db k*b.length))∧(i≤a.length)∧ms1=a.length - i) ((fun(i:Nat)=>a.length - i) (0)) ?_ ⟨0,dI trivial ?_⟩
 all_goals try(apply ai;repeat' first|exact ah|apply aa|(apply ak;intro zb hc)|(apply aj;intro zb)|intro j')<;>try apply al
 rintro ms1 S1 ⟨i,h1_0,h1_1,h1_2,h1_8,o1_7,c1_0,hm1⟩
 obtain⟨i1_7,h1_7,b1_7,l1_7⟩:=o1_7.out
 have ni1_7:=aG (x:=i1_7) (n:=S1.n)
 have fL1:=(aa h1_0 (aa h1_1 (aa h1_2 (aa h1_8 (aa h1_7 (aa b1_7 ni1_7))))))
 have b1:i<a.length→ -1000000≤a.getD i 0∧a.getD i 0≤1000000:=fun h=>h3 _ (ar h)
 have b2:0≤db k*(b.length:Int)∧db k*(b.length:Int)≤1000:=by cases k<;>simp[db]<;>omega
 refine dE fL1 ?_
 all_goals try(apply ai;repeat' first|exact ah|apply aa|(apply ak;intro zb hc)|(apply aj;intro zb)|intro j')<;>try apply al
 all_goals try have b3:=b1 (by omega)
 all_goals try exact gZ
 ·focus
   refine am ((fun(i:Nat)=>a.length - i) (i+1)) (dC fL1 ?_) ⟨i+1,dC fL1 ?_⟩
   all_goals try(apply ai;repeat' first|exact ah|apply aa|(apply ak;intro zb hc)|(apply aj;intro zb)|intro j')<;>try apply al
  all_goals(rw[az (d:=0) (by omega),List.map_append];rfl)
 ·refine an (fun ms2 S2=>∃(j:Nat),S2.e 0=.p (.sl (.lent m0) (List.map (PV.int .i64) (a)))∧S2.e 1=.p (.sl (.lent m1) (List.map (PV.int .i64) (b)))∧S2.e 2=.p (.bool (k))∧S2.e 9=.p (.int .i64 (j))∧OwnL (S2.e 7) S2.h S2.n (PV.int .i64) ((a.map (fun x=>x+db k*b.length)++(b.take j).map (fun x=>x+db (!k)*a.length)).length) (a.map (fun x=>x+db k*b.length)++(b.take j).map (fun x=>x+db (!k)*a.length))∧(j≤b.length)∧S1.n≤S2.n∧ms2=b.length - j) ((fun(j:Nat)=>b.length - j) (0)) ?_ ⟨0,dI fL1 ?_⟩
  all_goals try(apply ai;repeat' first|exact ah|apply aa|(apply ak;intro zb hc)|(apply aj;intro zb)|intro j')<;>try apply al
  rintro ms2 S2 ⟨j,h2_0,h2_1,h2_2,h2_9,o2_7,c2_0,u2_0,hm2⟩
  obtain⟨i2_7,h2_7,b2_7,l2_7⟩:=o2_7.out
  have ni2_7:=aG (x:=i2_7) (n:=S2.n)
  have fL2:=(aa h2_0 (aa h2_1 (aa h2_2 (aa h2_9 (aa h2_7 (aa b2_7 ni2_7))))))
  have b4:j<b.length→ -1000000≤b.getD j 0∧b.getD j 0≤1000000:=fun h=>h4 _ (ar h)
  have b5:0≤db (!k)*(a.length:Int)∧db (!k)*(a.length:Int)≤1000:=by cases k<;>simp[db]<;>omega
  refine dE fL2 ?_
  all_goals try(apply ai;repeat' first|exact ah|apply aa|(apply ak;intro zb hc)|(apply aj;intro zb)|intro j')<;>try apply al
  all_goals try have b6:=b4 (by omega)
  all_goals try exact gZ
  ·focus
    refine am ((fun(j:Nat)=>b.length - j) (j+1)) (dC fL2 ?_) ⟨j+1,dC fL2 ?_⟩
    all_goals try(apply ai;repeat' first|exact ah|apply aa|(apply ak;intro zb hc)|(apply aj;intro zb)|intro j')<;>try apply al
   all_goals(rw[az (d:=0) (by omega),List.map_append];try rfl)
  ·rw[List.take_of_length_le (by omega)]
   cases k<;>simp[m6,db]
  all_goals(rw[List.take_of_length_le (by omega)];try simp)
theorem s7 {m0 m1:Bool} (a:List Int) (b:List Int) (h1:a.length≤1048576) (h2:b.length≤1048576):Fun Tryz.prog 211 [(.sl (.lent m0) (List.map (PV.int .i64) (a))),(.sl (.lent m1) (List.map (PV.int .i64) (b)))] [(.bool ((ae a&&ae b&&decide (a.length+b.length≤8))))]:=by
 refine fO aR [4] Tryz.func211 ?_
 have cE1:= @aq
 refine ax trivial ?_
 all_goals try(apply ai;repeat' first|exact ah|apply aa|(apply ak;intro zb hc)|(apply aj;intro zb)|intro j')<;>try apply al
 all_goals(congr 1;exact propext (by omega))
theorem Ug {L:List (List Int)} {k:Bool} (hL:∀l∈L,aU l=true) (h8:cn L≤8) {j:Nat} (h:j<L.length):ae (dK (L.take j) k)=true∧ae (L.getD j [])=true∧(dK (L.take j) k).length+(L.getD j []).length≤8:=by
 have h1:=kS (k:=k) (show j≤L.length by omega)
 have h2:=gV h
 have h3:=eS (L:=L) (j:=j+1)
 have h4:=lJ (k:=k) hL (show j≤L.length by omega)
 have h5:=hL _ (ar (d:=[]) h)
 refine⟨?_, ?_,by omega⟩
 ·simp only[ae,h4,Bool.and_true,decide_eq_true_eq];omega
 ·simp only[ae,h5,Bool.and_true,decide_eq_true_eq];omega
theorem nb {e0 m0:Bool} (L:List (List Int)) (k:Bool) (hL:L.length≤8) (hp:∀l∈L,aU l=true) (h8:cn L≤8):Fun Tryz.prog 187 [(.sl (.lent m0) (List.map (bt e0) (L))),(.bool (k))] [(.sl .own (List.map (PV.int .i64) (dK L k))),(.bool (true))]:=by
 refine fO aR [4,5] Tryz.func187 ?_
 have cE1:= @s7;have cE2:= @ru
 refine ax trivial ?_
 all_goals try(apply ai;repeat' first|exact ah|apply aa|(apply ak;intro zb hc)|(apply aj;intro zb)|intro j')<;>try apply al
 refine an (fun ms1 S1=>∃(j:Nat),S1.e 0=.p (.sl (.lent m0) (List.map (bt e0) (L)))∧S1.e 1=.p (.bool (k))∧S1.e 7=.p (.int .i64 (j))∧OwnL (S1.e 6) S1.h S1.n (PV.int .i64) ((dK (L.take j) k).length) (dK (L.take j) k)∧(j≤L.length)∧ms1=L.length - j) ((fun(j:Nat)=>L.length - j) (0)) ?_ ⟨0,dC trivial ?_⟩
 all_goals try(apply ai;repeat' first|exact ah|apply aa|(apply ak;intro zb hc)|(apply aj;intro zb)|intro j')<;>try apply al
 rintro ms1 S1 ⟨j,h1_0,h1_1,h1_7,o1_6,c1_0,hm1⟩
 obtain⟨i1_6,h1_6,b1_6,l1_6⟩:=o1_6.out
 have ni1_6:=aG (x:=i1_6) (n:=S1.n)
 have fL1:=(aa h1_0 (aa h1_1 (aa h1_7 (aa h1_6 (aa b1_6 ni1_6)))))
 by_cases hj:j<L.length
 ·obtain⟨b1,b2,b3⟩:=Ug (k:=k) hp h8 hj
  have b4:=(aw b1).1
  have b5:=(aw b2).1
  have b6:∀x∈dK (L.take j) k, -1000000≤x∧x≤1000000:=fun x hx=>by have:=fv b1 x hx;omega
  have b7:∀x∈L.getD j [], -1000000≤x∧x≤1000000:=fun x hx=>by have:=fv b2 x hx;omega
  have b8:decide ((dK (L.take j) k).length+(L.getD j []).length≤8)=true:=decide_eq_true b3
  refine ax (aa fL1 (aa @b1 (aa @b2 @b8))) ?_
  all_goals try(apply ai;repeat' first|exact ah|apply aa|(apply ak;intro zb hc)|(apply aj;intro zb)|intro j')<;>try apply al
  ·focus
    refine am ((fun(j:Nat)=>L.length - j) (j+1)) (dC fL1 ?_) ⟨j+1,dC fL1 ?_⟩
    all_goals try(apply ai;repeat' first|exact ah|apply aa|(apply ak;intro zb hc)|(apply aj;intro zb)|intro j')<;>try apply al
   all_goals(rw[ii (by omega)])
 ·refine ax fL1 ?_
  all_goals try(apply ai;repeat' first|exact ah|apply aa|(apply ak;intro zb hc)|(apply aj;intro zb)|intro j')<;>try apply al
  rw[List.take_of_length_le (by omega)]
theorem na {m0:Bool} (p:List Int) (hp:ae p=true):Fun Tryz.prog 161 [(.sl (.lent m0) (List.map (PV.int .i64) (p)))] [(.sl .own (List.map (bt false) (c3 p)))]:=by
 refine fO aR [2] Tryz.func161 ?_
 have cE1:= @aq;have cE2:= @gv;have cE3:= @df
 have hl:=(aw hp).1
 have hq:=(aw hp).2
 have hb:=fv hp
 have b1:=cX hp
 have b3:=iJ (cX hp)
 have b4:∀x∈p,0≤x∧x≤1048576:=fun x hx=>by have:=hb x hx;omega
 have b5:(dg lz (ct p) (ct p).length).1=aN (ct p):=jX (aw b1).2
 refine ax (aa @b5 @hp) ?_
 all_goals try(apply ai;repeat' first|exact ah|apply aa|(apply ak;intro zb hc)|(apply aj;intro zb)|intro j')<;>try apply al
 refine an (fun ms1 S1=>∃(j:Nat),OwnL (S1.e 4) S1.h S1.n (bt false) ((aN (ct p)).length) (aN (ct p))∧S1.e 5=.p (.int .i64 (j))∧OwnL (S1.e 3) S1.h S1.n (bt false) ((((aN (ct p)).take j).map ct).length) (((aN (ct p)).take j).map ct)∧(j≤(aN (ct p)).length)∧NId (S1.e 3) (S1.e 4)∧ms1=(aN (ct p)).length - j) ((fun(j:Nat)=>(aN (ct p)).length - j) (0)) ?_ ⟨0,dC trivial ?_⟩
 all_goals try(apply ai;repeat' first|exact ah|apply aa|(apply ak;intro zb hc)|(apply aj;intro zb)|intro j')<;>try apply al
 rintro ms1 S1 ⟨j,o1_4,h1_5,o1_3,c1_0,u1_0,hm1⟩
 obtain⟨i1_4,h1_4,b1_4,l1_4⟩:=o1_4.out
 obtain⟨i1_3,h1_3,b1_3,l1_3⟩:=o1_3.out
 have k1_0:=(u1_0).out h1_3 h1_4
 have ni1_4:=aG (x:=i1_4) (n:=S1.n)
 have ni1_3:=aG (x:=i1_3) (n:=S1.n)
 have di1_4i1_3:=cQ (x:=i1_4) (y:=i1_3)
 have fL1:=(aa h1_5 (aa h1_4 (aa b1_4 (aa h1_3 (aa b1_3 (aa ni1_4 (aa ni1_3 di1_4i1_3)))))))
 have b8:j<(aN (ct p)).length→((aN (ct p)).getD j []).length≤8∧∀x∈(aN (ct p)).getD j [],0≤x∧x≤1048576:=fun h=>⟨(b3.2.2.2 _ (ar h)).2.1,fun x hx=>by have:=(b3.2.2.2 _ (ar h)).2.2 x hx;omega⟩
 by_cases hj:j<(aN (ct p)).length
 ·have b9:=b8 hj
  have b11:=b9.1
  have b12:=b9.2
  refine ax fL1 ?_
  all_goals try(apply ai;repeat' first|exact ah|apply aa|(apply ak;intro zb hc)|(apply aj;intro zb)|intro j')<;>try apply al
  focus
   refine am ((fun(j:Nat)=>(aN (ct p)).length - j) (j+1)) (dC fL1 ?_) ⟨j+1,dC fL1 ?_⟩
   all_goals try(apply ai;repeat' first|exact ah|apply aa|(apply ak;intro zb hc)|(apply aj;intro zb)|intro j')<;>try apply al
  all_goals(rw[az (d:=[]) hj,List.map_append];rfl)
 ·refine ax fL1 ?_
  all_goals try(apply ai;repeat' first|exact ah|apply aa|(apply ak;intro zb hc)|(apply aj;intro zb)|intro j')<;>try apply al
  obtain rfl:j=(aN (ct p)).length:=by omega
  simp[c3]
theorem s6 {m0:Bool} (L:List (List Int)) (k:Bool) (h0:1≤L.length) (hL:L.length≤8) (hp:∀l∈L,aU l=true) (h8:cn L≤8):Fun Tryz.prog 160 [(.sl (.lent m0) (List.map (bt false) (L))),(.bool (k))] [(.agg [(.sl (.lent false) (List.map (PV.int .i64) ((if k then[2,1]else[1,2])))),(.sl (.lent false) (List.map (bt false) ([L.getD 0 [],dK (L.drop 1) k])))])]:=by
 refine Fun.ofR (sg:=aR) (rs:=[.cell 4 48]) mo Tryz.func160 rfl rfl rfl rfl (by kernel_rfl) (by simp only[go_sem]) rfl ?_
 have cE1:= @nb
 have b1:(L.drop 1).length≤8:=by simp;omega
 have b2:∀l∈L.drop 1,aU l=true:=fun l hl=>hp l (List.mem_of_mem_drop hl)
 have b3:cn (L.drop 1)≤8:=Nat.le_trans zT h8
 have b4:=uW (ar (d:=[]) (show 0<L.length by omega))
 refine ax trivial ?_
 all_goals try(apply ai;repeat' first|exact ah|apply aa|(apply ak;intro zb hc)|(apply aj;intro zb)|intro j')<;>try apply al
theorem K1:dz (Value.pointer none)=.any:=_root_.id rfl
theorem N7 {b:List UInt8} {s:Cu}:(bX b s)[0]? =some (.sl (.lent false) (b.map jW)):=_root_.id rfl
theorem N6 {b:List UInt8} {s:Cu}:(bX b s)[1]? =some (.int .i64 s.i):=_root_.id rfl
theorem N5 {b:List UInt8} {s:Cu}:(bX b s)[2]? =some (.int .i64 s.h):=_root_.id rfl
theorem Id {b:List UInt8} {s:Cu}:(bX b s).length=3:=_root_.id rfl
theorem N4 {b:List UInt8} {s:Cu} {n:Nat}:(bX b s).set 1 (.int .i64 (n:Int))=bX b ⟨n,s.h⟩:=_root_.id rfl
theorem N3 {b:List UInt8} {s:Cu} {n:Int}:(bX b s).set 2 (.int .i64 n)=bX b ⟨s.i,n⟩:=_root_.id rfl
attribute [go_sem] K1 Ji N7 N6 N5 Id N4 N3
def oB (b:List UInt8):Nat→Int
 |0=>26583+(b.length:Int)
 |k+1=>((((oB b k*131+((b.getD k 0).toNat:Int))+7).toNat&&& (1073741823:Int).toNat:Nat):Int)
theorem Lj {b:List UInt8} (hb:b.length≤1048576):∀k,0≤oB b k∧oB b k≤1073741823
 |0=>by rw[oB];omega
 |k+1=>by
  have:=Nat.and_le_right (n:=((oB b k*131+((b.getD k 0).toNat:Int))+7).toNat) (m:=(1073741823:Int).toNat)
  rw[oB]
  omega
theorem PO (x:UInt8):x.toNat≤255:=by have:=x.toNat_lt;omega
theorem gF (b:List UInt8) (hb:b.length≤1048576):Fun Tryz.prog 53 [(.sl (.lent false) (List.map jW (b)))] [(.bx (bX b ⟨0,oB b (min b.length 4000)⟩))]:=by
 refine fO aR [2] Tryz.func53 ?_
 have u5:(Tryz.prog.underlying 5).isSome=true:=by rw[Tryz.underlying5];rfl
 refine ax trivial ?_
 all_goals try(apply ai;repeat' first|exact ah|apply aa|(apply ak;intro zb hc)|(apply aj;intro zb)|intro j')<;>try apply al
 refine an (fun ms1 S1=>∃(k:Nat),S1.e 0=.p (.sl (.lent false) (List.map jW (b)))∧S1.e 3=.p (.int .i64 (oB b k))∧S1.e 4=.p (.int .i64 (k))∧(k≤b.length)∧(k≤4000)∧ms1=b.length - k) ((fun(k:Nat)=>b.length - k) (0)) ?_ ⟨0,dC trivial ?_⟩
 all_goals try(apply ai;repeat' first|exact ah|apply aa|(apply ak;intro zb hc)|(apply aj;intro zb)|intro j')<;>try apply al
 rintro ms1 S1 ⟨k,h1_0,h1_3,h1_4,c1_0,c1_1,hm1⟩
 have fL1:=(aa h1_0 (aa h1_3 h1_4))
 ·have q1:=Lj hb k
  have q2:=PO (b.getD k 0)
  refine ax (aa fL1 @u5) ?_
  all_goals try(apply ai;repeat' first|exact ah|apply aa|(apply ak;intro zb hc)|(apply aj;intro zb)|intro j')<;>try apply al
  ·focus
    refine am ((fun(k:Nat)=>b.length - k) (k+1)) (dC fL1 ?_) ⟨k+1,dC fL1 ?_⟩
    all_goals try(apply ai;repeat' first|exact ah|apply aa|(apply ak;intro zb hc)|(apply aj;intro zb)|intro j')<;>try apply al
  ·rw[show min b.length 4000=k by omega];rfl
  ·rw[show min b.length 4000=k by omega];rfl
def OU (h:Int):Int:=IntKind.i64.wrap (IntKind.i64.wrap (h*6364136223846793005)+1442695040888963407)
def Vd (h:Int):Int:=rh .i64 (yT .i64 ((OU h).fdiv (2^33)) ((OU h).fdiv (2^45))) 255
def D9 (b:List UInt8) (s:Cu):Int:=if s.i<b.length then rh .i64 (IntKind.i64.wrap (Vd s.h+((b.getD s.i 0).toNat:Int))) 255 else Vd s.h
def oi (b:List UInt8) (s:Cu):Cu:=if s.i<b.length then⟨s.i+1,OU s.h⟩else⟨s.i,OU s.h⟩
theorem AO {n:Int} (h0: -9223372036854775808≤n) (h1:n≤9223372036854775807):IntKind.i64.wrap n=n:=by
 unfold IntKind.wrap
 simp only[IntKind.bits,IntKind.signed,Bool.true_and]
 split
 ·rename_i h;simp at h;omega
 ·rename_i h;simp at h;omega
theorem Ek {x:Int}:0≤rh .i64 x 255∧rh .i64 x 255≤255:=by
 unfold rh
 generalize BitVec.ofInt IntKind.i64.bits x=y
 have h:(y&&& BitVec.ofInt IntKind.i64.bits 255).toNat≤255:=by
  rw[BitVec.toNat_and]
  exact Nat.and_le_right
 rw[AO (by omega) (by omega)];omega
theorem byX_r {b:List UInt8} {s:Cu}:0≤D9 b s∧D9 b s≤255:=by
 unfold D9 Vd;split<;>exact Ek
def ur:FuncId→List Bool:=fun f=>if f=4294967296 then[true]else[]
theorem E6 {f:FuncId}:ur f=if f=4294967296 then[true]else[]:=_root_.id rfl
theorem A1:fJ ur=true∧ga ur=false∧f9 ur=false∧f8 ur=false∧gb ur=false:=⟨rfl,rfl,rfl,rfl,rfl⟩
attribute [go_sem] E6 A1
theorem iV (b:List UInt8) (s:Cu) (hb:b.length≤1048576):CallT Tryz.prog false 152 [.mu true (bX b s)] [some (bX b (oi b s))] [(.int .i64 (D9 b s))]:=by
 have u5:(Tryz.prog.underlying 5).isSome=true:=by rw[Tryz.underlying5];rfl
 by_cases hi:s.i<b.length
 ·have e1:IntKind.i64.wrap ((s.i:Int)+1)=((s.i+1:Nat):Int):=by rw[AO (by omega) (by omega)];omega
  have e2:D9 b s=rh .i64 (IntKind.i64.wrap (Vd s.h+((b.getD s.i 0).toNat:Int))) 255:=if_pos hi
  have e3:oi b s=⟨s.i+1,OU s.h⟩:=if_pos hi
  have hu:=PO (b.getD s.i 0)
  rw[e2,e3]
  refine fX ur [2] Tryz.func152 ?_
  have cD1:=gY [false,false,false,false,false,false,false,false,false,false,false,true,false,false,false] [(0,11)]
  refine ax (aa @u5 @e1) ?_
  all_goals try(apply ai;repeat' first|exact ah|apply aa|(apply ak;intro zb hc)|(apply aj;intro zb)|intro j')<;>try apply al
  all_goals rfl
 ·have e2:D9 b s=Vd s.h:=if_neg hi
  have e3:oi b s=⟨s.i,OU s.h⟩:=if_neg hi
  rw[e2,e3]
  refine fX ur [2] Tryz.func152 ?_
  have cD1:=gY [false,false,false,false,false,false,false,false,false,false,false,true,false,false,false] [(0,11)]
  refine ax @u5 ?_
  all_goals try(apply ai;repeat' first|exact ah|apply aa|(apply ak;intro zb hc)|(apply aj;intro zb)|intro j')<;>try apply al
  all_goals rfl
def fq:FuncId→List Bool:=fun f=>if f=152 then[true]else if f=110 then[true]else if f=108 then[true]else if f=149 then[true]else if f=150 then[true]else if f=111 then[true]else if f=112 then[true]else if f=55 then[true]else if f=54 then[true]else if f=109 then[true]else if f=52 then[true]else[]
theorem E4 {f:FuncId}:fq f=if f=152 then[true]else if f=110 then[true]else if f=108 then[true]else if f=149 then[true]else if f=150 then[true]else if f=111 then[true]else if f=112 then[true]else if f=55 then[true]else if f=54 then[true]else if f=109 then[true]else if f=52 then[true]else[]:=_root_.id rfl
theorem AZ:fJ fq=false∧ga fq=false∧f9 fq=false∧f8 fq=false∧gb fq=false:=⟨rfl,rfl,rfl,rfl,rfl⟩
attribute [go_sem] E4 AZ
def VG (b:List UInt8) (s:Cu):Int:=D9 b s*16777216+D9 b (oi b s)*65536+D9 b (oi b (oi b s))*256+D9 b (oi b (oi b (oi b s)))
theorem b4X_r {b:List UInt8} {s:Cu}:0≤VG b s∧VG b s≤4294967295:=by
 have q1:=byX_r (b:=b) (s:=s)
 have q2:=byX_r (b:=b) (s:=oi b s)
 have q3:=byX_r (b:=b) (s:=oi b (oi b s))
 have q4:=byX_r (b:=b) (s:=oi b (oi b (oi b s)))
 unfold VG;omega
def jL (b:List UInt8) (s:Cu) (n:Int):Int:=if n≤0 then 0 else if n≤256 then(D9 b s).tmod n else(VG b s).tmod n
def fH (b:List UInt8) (s:Cu) (n:Int):Cu:=if n≤0 then s else if n≤256 then oi b s else oi b (oi b (oi b (oi b s)))
theorem it {b:List UInt8} {s:Cu} {n:Int}:0≤jL b s n∧(0<n→jL b s n<n)∧(n≤0→jL b s n=0):=by
 unfold jL
 by_cases h0:n≤0
 ·rw[if_pos h0];omega
 ·rw[if_neg h0]
  refine⟨?_,fun h=> ?_,fun h=>absurd h h0⟩
  ·split
   ·exact Int.tmod_nonneg _ byX_r.1
   ·exact Int.tmod_nonneg _ b4X_r.1
  ·split<;>exact Int.tmod_lt_of_pos _ h
theorem aE (b:List UInt8) (s:Cu) (n:Int) (hb:b.length≤1048576) (hn:n≤4294967296):CallT Tryz.prog false 110 [.mu true (bX b s),.pv (.int .i64 (n))] [some (bX b (fH b s n)),none] [(.int .i64 (jL b s n))]:=by
 by_cases h0:n≤0
 ·rw[fH,jL,if_pos h0,if_pos h0]
  refine fX fq [4] Tryz.func110 ?_
  have cM1:= @iV
  refine ax trivial ?_
  all_goals try(apply ai;repeat' first|exact ah|apply aa|(apply ak;intro zb hc)|(apply aj;intro zb)|intro j')<;>try apply al
 ·by_cases h1:n≤256
  ·have q:=byX_r (b:=b) (s:=s)
   rw[fH,jL,if_neg h0,if_neg h0,if_pos h1,if_pos h1]
   refine fX fq [4] Tryz.func110 ?_
   have cM1:= @iV
   refine ax trivial ?_
   all_goals try(apply ai;repeat' first|exact ah|apply aa|(apply ak;intro zb hc)|(apply aj;intro zb)|intro j')<;>try apply al
  ·have q1:=byX_r (b:=b) (s:=s)
   have q2:=byX_r (b:=b) (s:=oi b s)
   have q3:=byX_r (b:=b) (s:=oi b (oi b s))
   have q4:=byX_r (b:=b) (s:=oi b (oi b (oi b s)))
   rw[fH,jL,if_neg h0,if_neg h0,if_neg h1,if_neg h1,VG]
   refine fX fq [4] Tryz.func110 ?_
   have cM1:= @iV
   refine ax trivial ?_
   all_goals try(apply ai;repeat' first|exact ah|apply aa|(apply ak;intro zb hc)|(apply aj;intro zb)|intro j')<;>try apply al
theorem aP (b:List UInt8) (s:Cu) (n:Int) (hb:b.length≤1048576) (hn:n≤4294967296):CallT Tryz.prog false 108 [.mu true (bX b s),.pv (.int .i64 (n))] [some (bX b (fH b s n)),none] [(.bool (decide (jL b s n=0)))]:=by
 refine fX fq [4] Tryz.func108 ?_
 have cM1:= @aE
 refine ax trivial ?_
 all_goals try(apply ai;repeat' first|exact ah|apply aa|(apply ak;intro zb hc)|(apply aj;intro zb)|intro j')<;>try apply al
theorem m8 {m0:Bool} (b:List UInt8) (s:Cu) (l:List Int) (hb:b.length≤1048576) (hl:l.length≤256) (h0:l≠[]):∃s' x,CallT Tryz.prog false 150 [.mu true (bX b s),.pv (.sl (.lent m0) (List.map (PV.int .i64) l))] [some (bX b s'),none] [.int .i64 x]∧x∈l:=by
 have hp:=List.length_pos_iff.2 h0
 have q:=it (b:=b) (s:=s) (n:=l.length)
 refine⟨fH b s l.length,l.getD (jL b s l.length).toNat 0, ?_,ar (by omega)⟩
 refine fX fq [4] Tryz.func150 ?_
 have cM1:= @aE
 refine ax trivial ?_
 all_goals try(apply ai;repeat' first|exact ah|apply aa|(apply ak;intro zb hc)|(apply aj;intro zb)|intro j')<;>try apply al
theorem rx {m0:Bool} (b:List UInt8) (s:Cu) (l:List (List UInt8)) (hb:b.length≤1048576) (hl:l.length≤256) (h0:l≠[]):∃s' x,CallT Tryz.prog false 149 [.mu true (bX b s),.pv (.sl (.lent m0) (List.map PV.str l))] [some (bX b s'),none] [.str x]∧x∈l:=by
 have hp:=List.length_pos_iff.2 h0
 have q:=it (b:=b) (s:=s) (n:=l.length)
 refine⟨fH b s l.length,l.getD (jL b s l.length).toNat [], ?_,ar (by omega)⟩
 refine fX fq [4] Tryz.func149 ?_
 have cM1:= @aE
 refine ax trivial ?_
 all_goals try(apply ai;repeat' first|exact ah|apply aa|(apply ak;intro zb hc)|(apply aj;intro zb)|intro j')<;>try apply al
theorem rO {L D:List Int} {p:Int} {j:Nat} (h:j≤L.length):List.take (j+1) (L.take j++p::D)=L.take j++[p]:=by
 rw[List.take_append,List.take_of_length_le (by simp;omega),List.length_take,Nat.min_eq_left h,Nat.add_sub_cancel_left];rfl
def jd (b:List UInt8) (s:Cu):Nat→List Int×Cu
 |0=>([],s)
 |k+1=>
  let p:=jd b s k
  ((p.1.take (jL b p.2 ((p.1.length:Int)+1)).toNat++[(k:Int)+1])++p.1.drop (jL b p.2 ((p.1.length:Int)+1)).toNat,fH b p.2 ((p.1.length:Int)+1))
theorem kU {b:List UInt8} {s:Cu}:∀{k:Nat},(jd b s k).1.length=k
 |0=>rfl
 |k+1=>by
  have h:=kU (b:=b) (s:=s) (k:=k)
  have q:=it (b:=b) (s:=(jd b s k).2) (n:=((jd b s k).1.length:Int)+1)
  simp only[jd,List.length_append,List.length_take,List.length_drop,List.length_singleton]
  omega
theorem drL_mem {b:List UInt8} {s:Cu}:∀{k:Nat},(∀x∈(jd b s k).1,1≤x∧x≤k)∧(jd b s k).1.Nodup
 |0=>by simp[jd]
 |k+1=>by
  obtain⟨h1,h2⟩:=drL_mem (b:=b) (s:=s) (k:=k)
  have hp:(jd b s (k+1)).1.Perm (((k:Int)+1)::(jd b s k).1):=by
   simp only[jd]
   rw[List.append_assoc,List.singleton_append]
   refine List.perm_middle.trans ?_
   rw[List.take_append_drop]
  constructor
  ·intro x hx
   rcases List.mem_cons.1 (hp.subset hx)with q|q
   ·omega
   ·have:=h1 x q;omega
  ·refine(hp.nodup_iff).2 (List.nodup_cons.2 ⟨fun q=> ?_,h2⟩)
   have:=h1 _ q;omega
theorem vD {b:List UInt8} {s:Cu} {k:Nat}:aU (jd b s k).1=true:=permB_iff.2 ⟨by rw[kU];exact drL_mem.1,drL_mem.2⟩
theorem dn (b:List UInt8) (s:Cu) (n:Int) (hb:b.length≤1048576) (h0:0≤n) (hn:n≤1000):CallT Tryz.prog false 111 [.mu true (bX b s),.pv (.int .i64 (n))] [some (bX b (jd b s n.toNat).2),none] [(.sl .own (List.map (PV.int .i64) ((jd b s n.toNat).1)))]:=by
 refine fX fq [4] Tryz.func111 ?_
 have cM1:= @aE
 refine ax trivial ?_
 all_goals try(apply ai;repeat' first|exact ah|apply aa|(apply ak;intro zb hc)|(apply aj;intro zb)|intro j')<;>try apply al
 refine an (fun ms1 S1=>∃(k:Nat),S1.e 0=.ptr 0 0∧S1.h 0=.live true (bX b (jd b s k).2)∧0<S1.n∧S1.e 1=.p (.int .i64 (n))∧OwnL (S1.e 5) S1.h S1.n (PV.int .i64) (((jd b s k).1).length) ((jd b s k).1)∧S1.e 6=.p (.int .i64 ((k+1)))∧((k:Int)≤n)∧NId (S1.e 5) (.ref 0 0 0)∧ms1=n.toNat - k) ((fun(k:Nat)=>n.toNat - k) (0)) ?_ ⟨0,dC trivial ?_⟩
 all_goals try(apply ai;repeat' first|exact ah|apply aa|(apply ak;intro zb hc)|(apply aj;intro zb)|intro j')<;>try apply al
 rintro ms1 S1 ⟨k,h1_0,b1_0,l1_0,h1_1,o1_5,h1_6,c1_0,u1_0,hm1⟩
 obtain⟨i1_5,h1_5,b1_5,l1_5⟩:=o1_5.out
 have k1_0:=(u1_0).out h1_5 rfl
 have ni1_5:=aG (x:=i1_5) (n:=S1.n)
 have n0:=aG (x:=0) (n:=S1.n)
 have di1_50:=cQ (x:=i1_5) (y:=0)
 have fL1:=(aa h1_0 (aa b1_0 (aa h1_1 (aa h1_6 (aa h1_5 (aa b1_5 (aa ni1_5 (aa n0 di1_50))))))))
 ·have hl:=kU (b:=b) (s:=s) (k:=k)
  have hd:jd b s (k+1)=(((jd b s k).1.take (jL b (jd b s k).2 (((jd b s k).1.length:Int)+1)).toNat++[(k:Int)+1])++(jd b s k).1.drop (jL b (jd b s k).2 (((jd b s k).1.length:Int)+1)).toNat,fH b (jd b s k).2 (((jd b s k).1.length:Int)+1)):=rfl
  have q:=it (b:=b) (s:=(jd b s k).2) (n:=((jd b s k).1.length:Int)+1)
  obtain⟨j,hj⟩:∃j:Nat,jL b (jd b s k).2 (((jd b s k).1.length:Int)+1)=j:=⟨_,(Int.toNat_of_nonneg q.1).symm⟩
  rw[hj,Int.toNat_natCast]at hd
  rw[hj]at q
  generalize hL:(jd b s k).1=L at*
  generalize hS:(jd b s k).2=S0 at*
  have e3:List.take (L.length - j) (List.drop j L)=L.drop j:=List.take_of_length_le (by simp)
  by_cases g0:j=L.length
  ·subst g0
   have e4:List.drop L.length L=[]:=List.drop_length
   have e5:List.take L.length L=L:=List.take_length
   have f1:(L.length+1=(L++[(k:Int)+1]).length)=True:=eq_true (by simp)
   rw[e4,e5,List.append_nil]at hd
   refine ax (aa fL1 (aa @hj (aa @e3 (aa @e4 (aa @e5 @f1))))) ?_
   all_goals try(apply ai;repeat' first|exact ah|apply aa|(apply ak;intro zb hc)|(apply aj;intro zb)|intro j')<;>try apply al
   ·focus
     refine am ((fun(k:Nat)=>n.toNat - k) (k+1)) (dC fL1 ?_) ⟨k+1,dC fL1 ?_⟩
     all_goals try(apply ai;repeat' first|exact ah|apply aa|(apply ak;intro zb hc)|(apply aj;intro zb)|intro j')<;>try apply al
    all_goals rw[hd]
    all_goals first|(simp;done)|skip
   all_goals first|(obtain rfl:k=n.toNat:=(by omega);rw[hS];done)|(obtain rfl:k=n.toNat:=(by omega);rw[hL];done)|skip
  ·have f0:(j=L.length)=False:=eq_false g0
   have f1:(j+1≤L.length)=True:=eq_true (by omega)
   have f2:(List.take j L++((k:Int)+1)::List.drop (j+1) L).length=L.length:=by simp;omega
   have f3:(List.drop j L).length=L.length - j:=by simp
   by_cases g1:j+1=L.length
   ·have f4:(j+1=L.length)=True:=eq_true g1
    refine ax (aa fL1 (aa @hj (aa @e3 (aa @f0 (aa @f1 (aa @f2 (aa @f3 @f4))))))) ?_
    all_goals try(apply ai;repeat' first|exact ah|apply aa|(apply ak;intro zb hc)|(apply aj;intro zb)|intro j')<;>try apply al
    ·focus
      refine am ((fun(k:Nat)=>n.toNat - k) (k+1)) (dC fL1 ?_) ⟨k+1,dC fL1 ?_⟩
      all_goals try(apply ai;repeat' first|exact ah|apply aa|(apply ak;intro zb hc)|(apply aj;intro zb)|intro j')<;>try apply al
     all_goals rw[hd]
     all_goals first|(simp;done)|(simp;omega)|(rw[rO (by omega)];done)|skip
    all_goals first|(obtain rfl:k=n.toNat:=(by omega);rw[hS];done)|(obtain rfl:k=n.toNat:=(by omega);rw[hL];done)|skip
   ·have f4:(j+1=L.length)=False:=eq_false g1
    have f5:(j+(1+(L.length - j))≤L.length)=False:=eq_false (by omega)
    refine ax (aa fL1 (aa @hj (aa @e3 (aa @f0 (aa @f1 (aa @f2 (aa @f3 (aa @f4 @f5)))))))) ?_
    all_goals try(apply ai;repeat' first|exact ah|apply aa|(apply ak;intro zb hc)|(apply aj;intro zb)|intro j')<;>try apply al
    ·focus
      refine am ((fun(k:Nat)=>n.toNat - k) (k+1)) (dC fL1 ?_) ⟨k+1,dC fL1 ?_⟩
      all_goals try(apply ai;repeat' first|exact ah|apply aa|(apply ak;intro zb hc)|(apply aj;intro zb)|intro j')<;>try apply al
     all_goals rw[hd]
     all_goals first|(simp;done)|(simp;omega)|(rw[rO (by omega)];done)|skip
    all_goals first|(obtain rfl:k=n.toNat:=(by omega);rw[hS];done)|(obtain rfl:k=n.toNat:=(by omega);rw[hL];done)|skip
theorem ml (b:List UInt8) (s:Cu) (hb:b.length≤1048576):∃s' p,CallT Tryz.prog false 112 [.mu true (bX b s)] [some (bX b s')] [.sl .own (List.map (PV.int .i64) p)]∧ae p=true:=by
 obtain⟨s1,n,c1,hn⟩:=m8 (m0:=true) b s [0,1,2,3,4,5,5,6,6,7,8] hb (by decide) (by decide)
 have h8:0≤n∧n≤8:=by simp at hn;omega
 simp only[List.map_cons,List.map_nil]at c1
 refine⟨(jd b s1 n.toNat).2,(jd b s1 n.toNat).1, ?_, ?_⟩
 ·refine fX fq [2] Tryz.func112 ?_
  have cM1:= @dn
  have cM2:= @c1
  refine ax trivial ?_
  all_goals try(apply ai;repeat' first|exact ah|apply aa|(apply ak;intro zb hc)|(apply aj;intro zb)|intro j')<;>try apply al
 ·simp only[ae,vD,kU,Bool.and_true,decide_eq_true_eq];omega
structure SmL (p:List Int):Prop where
 len:p.length≤9
 rg:∀x∈p, -1≤x∧x≤10
theorem SmL.of {p:List Int} (h:ae p=true):SmL p:=by
 obtain⟨h8,hp⟩:p.length≤8∧aU p=true:=by simpa[ae]using h
 exact⟨by omega,fun x hx=>by have:=(permB_iff.1 hp).1 x hx;omega⟩
theorem iU (b:List UInt8) (s:Cu) (hb:b.length≤1048576):∃s' p,CallT Tryz.prog false 55 [.mu true (bX b s)] [some (bX b s')] [.sl .own (List.map (PV.int .i64) p)]∧SmL p:=by
 obtain⟨s1,p,c1,hp⟩:=ml b s hb
 have h8:p.length≤8:=by simp[ae]at hp;exact hp.1
 have hs:=SmL.of hp
 obtain⟨x,hx⟩:∃x,jL b s1 14=x:=⟨_,rfl⟩
 by_cases h0:x=0
 ·have q:=it (b:=b) (s:=fH b s1 14) (n:=12)
  refine⟨fH b (fH b s1 14) 12,p++[jL b (fH b s1 14) 12 - 1], ?_, ?_,fun y hy=> ?_⟩
  ·subst h0
   refine fX fq [2] Tryz.func55 ?_
   have cM1:= @aE
   have cM2:= @c1
   refine ax @hx ?_
   all_goals try(apply ai;repeat' first|exact ah|apply aa|(apply ak;intro zb hc)|(apply aj;intro zb)|intro j')<;>try apply al
   all_goals exact List.take_of_length_le (by simp)
  ·simp;omega
  ·rcases List.mem_append.1 hy with g|g
   ·exact hs.rg y g
   ·simp at g;omega
 ·by_cases h1:x=1
  ·by_cases hl:0<p.length
   ·have q:=it (b:=b) (s:=fH b s1 14) (n:=11)
    refine⟨fH b (fH b s1 14) 11,p.set 0 (jL b (fH b s1 14) 11 - 1), ?_, ?_,fun y hy=> ?_⟩
    ·subst h1
     refine fX fq [2] Tryz.func55 ?_
     have cM1:= @aE
     have cM2:= @c1
     refine ax @hx ?_
     all_goals try(apply ai;repeat' first|exact ah|apply aa|(apply ak;intro zb hc)|(apply aj;intro zb)|intro j')<;>try apply al
     all_goals exact List.take_of_length_le (by simp)
    ·simp;omega
    ·rcases List.mem_or_eq_of_mem_set hy with g|g
     ·exact hs.rg y g
     ·omega
   ·refine⟨fH b s1 14,p, ?_,hs⟩
    subst h1
    refine fX fq [2] Tryz.func55 ?_
    have cM1:= @aE
    have cM2:= @c1
    refine ax @hx ?_
    all_goals try(apply ai;repeat' first|exact ah|apply aa|(apply ak;intro zb hc)|(apply aj;intro zb)|intro j')<;>try apply al
    all_goals exact List.take_of_length_le (by simp)
  ·have f0:(x=0)=False:=eq_false h0
   have f1:(x=1)=False:=eq_false h1
   refine⟨fH b s1 14,p, ?_,hs⟩
   refine fX fq [2] Tryz.func55 ?_
   have cM1:= @aE
   have cM2:= @c1
   refine ax (aa @hx (aa @f0 @f1)) ?_
   all_goals try(apply ai;repeat' first|exact ah|apply aa|(apply ak;intro zb hc)|(apply aj;intro zb)|intro j')<;>try apply al
   all_goals exact List.take_of_length_le (by simp)
theorem bo {m0 m1:Bool} (a b:List Int) (ha:a.length≤1099511627776) (hb:b.length≤1099511627776):Fun Tryz.prog 122 [(.sl (.lent m0) (List.map (PV.int .i64) (a))),(.sl (.lent m1) (List.map (PV.int .i64) (b)))] [(.bool (decide (a=b)))]:=by
 refine fO aR [4] Tryz.func122 ?_
 refine dE trivial ?_
 all_goals try(apply ai;repeat' first|exact ah|apply aa|(apply ak;intro zb hc)|(apply aj;intro zb)|intro j')<;>try apply al
 ·rw[decide_eq_false];intro e;subst e;exact hc rfl
 refine an (fun ms1 S1=>∃(k:Nat),S1.e 0=.p (.sl (.lent m0) (List.map (PV.int .i64) (a)))∧S1.e 1=.p (.sl (.lent m1) (List.map (PV.int .i64) (b)))∧S1.e 5=.p (.int .i64 (k))∧(k≤a.length)∧(a.take k=b.take k)∧ms1=a.length - k) ((fun(k:Nat)=>a.length - k) (0)) ?_ ⟨0,jK trivial ?_⟩
 all_goals try(apply ai;repeat' first|exact ah|apply aa|(apply ak;intro zb hc)|(apply aj;intro zb)|intro j')<;>try apply al
 rintro ms1 S1 ⟨k,h1_0,h1_1,h1_5,c1_0,c1_1,hm1⟩
 have fL1:=(aa h1_0 (aa h1_1 h1_5))
 refine ax fL1 ?_
 all_goals try(apply ai;repeat' first|exact ah|apply aa|(apply ak;intro zb hc)|(apply aj;intro zb)|intro j')<;>try apply al
 ·rw[decide_eq_false];intro e;subst e;exact hc rfl
 ·focus
   refine am ((fun(k:Nat)=>a.length - k) (k+1)) (dC fL1 ?_) ⟨k+1,dC fL1 ?_⟩
   all_goals try(apply ai;repeat' first|exact ah|apply aa|(apply ak;intro zb hc)|(apply aj;intro zb)|intro j')<;>try apply al
  rw[ld (by omega) (by omega)];exact⟨c1_1,hc⟩
 ·rw[decide_eq_true]
  rw[List.take_of_length_le (by omega),List.take_of_length_le (by omega)]at c1_1;exact c1_1
theorem br {m0 m1:Bool} (a b:List Int) (ha:a.length≤1099511627776) (hb:b.length≤1099511627776):Fun Tryz.prog 144 [(.sl (.lent m0) (List.map (PV.int .i64) (a))),(.sl (.lent m1) (List.map (PV.int .i64) (b)))] [(.bool (decide (a=b)))]:=by
 refine fO aR [4] Tryz.func144 ?_
 refine dE trivial ?_
 all_goals try(apply ai;repeat' first|exact ah|apply aa|(apply ak;intro zb hc)|(apply aj;intro zb)|intro j')<;>try apply al
 ·rw[decide_eq_false];intro e;subst e;exact hc rfl
 refine an (fun ms1 S1=>∃(k:Nat),S1.e 0=.p (.sl (.lent m0) (List.map (PV.int .i64) (a)))∧S1.e 1=.p (.sl (.lent m1) (List.map (PV.int .i64) (b)))∧S1.e 12=.p (.int .i64 (a.length))∧S1.e 13=.p (.int .i64 (k))∧(k≤a.length)∧(a.take k=b.take k)∧ms1=a.length - k) ((fun(k:Nat)=>a.length - k) (0)) ?_ ⟨0,jK trivial ?_⟩
 all_goals try(apply ai;repeat' first|exact ah|apply aa|(apply ak;intro zb hc)|(apply aj;intro zb)|intro j')<;>try apply al
 rintro ms1 S1 ⟨k,h1_0,h1_1,h1_12,h1_13,c1_0,c1_1,hm1⟩
 have fL1:=(aa h1_0 (aa h1_1 (aa h1_12 h1_13)))
 refine ax fL1 ?_
 all_goals try(apply ai;repeat' first|exact ah|apply aa|(apply ak;intro zb hc)|(apply aj;intro zb)|intro j')<;>try apply al
 ·rw[decide_eq_false];intro e;subst e;exact hc rfl
 ·focus
   refine am ((fun(k:Nat)=>a.length - k) (k+1)) (dC fL1 ?_) ⟨k+1,dC fL1 ?_⟩
   all_goals try(apply ai;repeat' first|exact ah|apply aa|(apply ak;intro zb hc)|(apply aj;intro zb)|intro j')<;>try apply al
  rw[ld (by omega) (by omega)];exact⟨c1_1,hc⟩
 ·rw[decide_eq_true]
  rw[List.take_of_length_le (by omega),List.take_of_length_le (by omega)]at c1_1;exact c1_1
end Go.Gl
