/-
  What the functions compute, and what the law asks of it: texts joined. Conditions: those that each lemma names.
-/
import Derived.Test.YtbppfpdgahopeaaGreatDoorT3
import Derived.Test.YtbppfpdgahopeaaGreatDoorT2
import Derived.Test.YtbppfpdgahopeaaGreatDoorT1
set_option linter.unusedSimpArgs false
set_option linter.unusedVariables false
set_option maxRecDepth 20000
set_option linter.unusedSectionVars false
namespace Go.Gl
open Go Go.Proofs
variable [Amb] [NoQ]
theorem fill_count {l:List Int} {a:Int} (hn:l.Nodup) (hb:∀x∈l,a<x∧x≤a+l.length) {x:Int} (hx:x∈l):((l.filter fun y=>decide (y<x)).length:Int)=x - a - 1:=by
 have h1:=hb x hx
 have h2:(l.filter fun y=>decide (y<x)).length≤(x - a - 1).toNat:=nodup_le (a:=a) (List.Nodup.sublist List.filter_sublist hn) fun y hy=>by
  simp only[List.mem_filter,decide_eq_true_eq]at hy
  have:=hb y hy.1;omega
 have h3:(l.filter fun y=> !decide (y<x)).length≤(a+l.length - (x - 1)).toNat:=nodup_le (a:=x - 1) (List.Nodup.sublist List.filter_sublist hn) fun y hy=>by
  simp only[List.mem_filter,Bool.not_eq_true',decide_eq_false_iff_not]at hy
  have:=hb y hy.1;omega
 have h4:=len_two (fun y=>decide (y<x)) l
 omega
theorem patL_shift {l:List Int} {a:Int} (hn:l.Nodup) (hb:∀x∈l,a<x∧x≤a+l.length):patL l=l.map fun x=>x+ -a:=by
 refine List.map_congr_left fun x hx=> ?_
 rw[rkI,List.take_length,fill_count hn hb hx];omega
theorem getD_seg {p:List Int} {x:Int} {a b:Nat} (h:x∈segL p a b):∃j,a≤j∧j<b∧j<p.length∧p.getD j 0=x:=by
 obtain⟨i,hi,rfl⟩:=List.getElem_of_mem h
 simp only[segL,List.length_drop,List.length_take]at hi
 refine⟨a+i,by omega,by omega,by omega, ?_⟩
 simp only[segL,List.getElem_drop,List.getElem_take,List.getD_eq_getElem?_getD]
 rw[List.getElem?_eq_getElem (by omega)];rfl
theorem maxI_le {p:List Int} {g:List Int→Nat→List Int}:∀{k:Nat},k≤p.length→∀j,j<k→p.getD j 0≤(spG g p k).2.2
 |k+1,h,j,hj=>by
  have ih:=maxI_le (g:=g) (p:=p) (k:=k) (by omega)
  have e:(spG g p (k+1)).2.2=max (spG g p k).2.2 (p.getD k 0):=by rw[spG];split<;>rfl
  rw[e]
  by_cases hk:j=k
  ·subst hk;omega
  ·have:=ih j (by omega);omega
theorem spG_fill {p:List Int} {g:List Int→Nat→List Int} (hp:permB p=true):∀{k:Nat},k≤p.length→∀j,j<(spG g p k).2.1→p.getD j 0≤(spG g p k).2.1
 |0,_,j,hj=>by simp[spG]at hj
 |k+1,h,j,hj=>by
  rw[spG]at hj ⊢
  split at hj
  ·rename_i e
   rw[if_pos e]
   simp only at hj ⊢
   have:=maxI_le (g:=g) h j hj
   have e2:(spG g p (k+1)).2.2=max (spG g p k).2.2 (p.getD k 0):=by rw[spG];split<;>rfl
   push_cast;omega
  ·rename_i e
   rw[if_neg e]
   exact spG_fill hp (by omega) j hj
theorem nodup_take {p:List Int} (h:p.Nodup) {a b:Nat}:(segL p a b).Nodup:=List.Nodup.sublist ((List.drop_sublist _ _).trans (List.take_sublist _ _)) h
theorem seg_fill {p:List Int} (hp:permB p=true) {f b:Nat} (hb:b≤p.length) (hf:f≤b) (h1:∀j,j<f→p.getD j 0≤f) (h2:∀j,j<b→p.getD j 0≤b):∀x∈segL p f b,(f:Int)<x∧x≤f+(segL p f b).length:=by
 intro x hx
 obtain⟨j,j1,j2,j3,rfl⟩:=getD_seg hx
 have hq:=permB_iff.1 hp
 rw[segL_len hb]
 refine⟨?_,by have:=h2 j j2;omega⟩
 by_cases hlt:(f:Int)<p.getD j 0
 ·exact hlt
 ·exfalso
  have l1:(p.getD j 0::p.take f).length≤f:=nodup_le (a:=0) (by
   rw[List.nodup_cons]
   refine⟨fun hm=> ?_,List.Nodup.sublist (List.take_sublist _ _) hq.2⟩
   obtain⟨i,hi,e⟩:=List.getElem_of_mem hm
   rw[List.getElem_take]at e
   have e2:p[i]'(by simp at hi;omega)=p[j]:=by rw[e,List.getD_eq_getElem?_getD,List.getElem?_eq_getElem j3];rfl
   have:=(List.getElem_inj hq.2).1 e2
   simp at hi;omega) fun x hx=>by
   rcases List.mem_cons.1 hx with rfl|hx
   ·have:=hq.1 _ (getD_mem (d:=0) j3);omega
   ·obtain⟨i,hi,rfl⟩:=List.getElem_of_mem hx
    simp at hi
    have m1:=h1 i (by omega)
    rw[List.getElem_take]
    rw[List.getD_eq_getElem?_getD,List.getElem?_eq_getElem (by omega)]at m1
    have m2:=hq.1 _ (List.getElem_mem (l:=p) (show i<p.length by omega))
    simp only[Option.getD_some]at m1
    omega
  simp at l1;omega
theorem spG_pt {p:List Int} (hp:permB p=true):∀{k:Nat},k≤p.length→spG ptI p k=spG shI p k
 |0,_=>rfl
 |k+1,h=>by
  have ih:=spG_pt hp (k:=k) (by omega)
  rw[spG,spG,ih]
  split
  ·rename_i e
   have hm:=maxI_le (g:=shI) h
   have e2:(spG shI p (k+1)).2.2=max (spG shI p k).2.2 (p.getD k 0):=by rw[spG];split<;>rfl
   have hf:=(spG_from (g:=shI) (p:=p) (k:=k)).1
   have hx:=seg_fill hp (f:=(spG shI p k).2.1) (b:=k+1) h (by omega) (spG_fill hp (by omega)) (fun j hj=>by have:=hm j hj;push_cast;omega)
   have:ptI (segL p (spG shI p k).2.1 (k+1)) (spG shI p k).2.1=shI (segL p (spG shI p k).2.1 (k+1)) (spG shI p k).2.1:=patL_shift (nodup_take (permB_iff.1 hp).2) hx
   rw[this]
  ·rfl
theorem flat_take {L:List (List Int)} {k:Nat} (h:k<L.length):(L.take (k+1)).flatten=(L.take k).flatten++L.getD k []:=by
 rw[take_getD (d:=[]) h,List.flatten_append];simp
theorem flat_le {L:List (List Int)} {n:Nat} (hl:∀l∈L,l.length≤n):∀{k:Nat},k≤L.length→(L.take k).flatten.length≤k*n
 |0,_=>by simp
 |k+1,h=>by
  have h1:=flat_le hl (k:=k) (by omega)
  have h2:=hl _ (getD_mem (d:=[]) (show k<L.length by omega))
  rw[flat_take (by omega),List.length_append,Nat.succ_mul];omega
def sgCc:FuncId→List Bool:=fun f=>if f=225 then[true]else[]
theorem sgCc_eq {f:FuncId}:sgCc f=if f=225 then[true]else[]:=_root_.id rfl
theorem way_sgCc:wayE sgCc=false∧wayN sgCc=false∧wayS sgCc=false∧wayZ sgCc=false∧wayM sgCc=false:=⟨rfl,rfl,rfl,rfl,rfl⟩
attribute [go_sem] sgCc_eq way_sgCc
theorem slices_Concat_int_int_c {e0 m0:Bool} (L:List (List Int)) (hL:L.length≤1000) (hl:∀l∈L,l.length≤1000):Fun Tryz.prog 214 [(.sl (.lent m0) (List.map (elI e0) (L)))] [(.sl .own (List.map (PV.int .i64) (L.flatten)))]:=by
 refine fO sgCc [2] Tryz.func214 ?_
 refine dEa trivial ?_
 all_goals try (refine zlf ?_;repeat' first|exact zso|refine And.intro ?_ ?_|(refine zim ?_;intro zb hc)|(refine zin ?_;intro zb)|intro j')
 all_goals try refine zbx ?_
 refine v_loopB (fun ms1 S1=>∃(k:Nat),S1.e 0=.p (.sl (.lent m0) (List.map (elI e0) (L)))∧S1.e 9=.p (.sl (.lent m0) (List.map (elI e0) (L)))∧S1.e 10=.p (.int .i64 (L.length))∧S1.e 11=.p (.int .i64 (k))∧S1.e 3=.p (.int .i64 ((L.take k).flatten.length))∧(k≤L.length)∧ms1=L.length - k) ((fun(k:Nat)=>L.length - k) (0)) ?_ ⟨0,dI trivial ?_⟩
 all_goals try (refine zlf ?_;repeat' first|exact zso|refine And.intro ?_ ?_|(refine zim ?_;intro zb hc)|(refine zin ?_;intro zb)|intro j')
 all_goals try refine zbx ?_
 rintro ms1 S1 ⟨k,h1_0,h1_9,h1_10,h1_11,h1_3,c1_0,hm1⟩
 have fL1:=(And.intro h1_0 (And.intro h1_9 (And.intro h1_10 (And.intro h1_11 h1_3))))
 have b1:=flat_le hl c1_0
 have b2:=Nat.mul_le_mul c1_0 (Nat.le_refl 1000)
 have b3:k<L.length→(L.getD k []).length≤1000:=fun h=>hl _ (getD_mem h)
 have cX1:= @slices_Grow_d
 refine dE fL1 ?_
 all_goals try (refine zlf ?_;repeat' first|exact zso|refine And.intro ?_ ?_|(refine zim ?_;intro zb hc)|(refine zin ?_;intro zb)|intro j')
 all_goals try refine zbx ?_
 all_goals try have b4:=b3 (by omega)
 all_goals try exact zaut
 ·focus
   refine q_lp_n ((fun(k:Nat)=>L.length - k) (k+1)) (dC fL1 ?_) ⟨k+1,dC fL1 ?_⟩
   all_goals try (refine zlf ?_;repeat' first|exact zso|refine And.intro ?_ ?_|(refine zim ?_;intro zb hc)|(refine zin ?_;intro zb)|intro j')
   all_goals try refine zbx ?_
  rw[flat_take (by omega),List.length_append];push_cast;rfl
 ·refine v_loopB (fun ms2 S2=>∃(j:Nat),S2.e 25=.p (.sl (.lent m0) (List.map (elI e0) (L)))∧S2.e 26=.p (.int .i64 (L.length))∧S2.e 27=.p (.int .i64 (j))∧OwnL (S2.e 6) S2.h S2.n (PV.int .i64) (((L.take j).flatten).length) ((L.take j).flatten)∧(j≤L.length)∧S1.n≤S2.n∧ms2=L.length - j) ((fun(j:Nat)=>L.length - j) (0)) ?_ ⟨0,dI fL1 ?_⟩
  all_goals try (refine zlf ?_;repeat' first|exact zso|refine And.intro ?_ ?_|(refine zim ?_;intro zb hc)|(refine zin ?_;intro zb)|intro j')
  all_goals try refine zbx ?_
  rintro ms2 S2 ⟨j,h2_25,h2_26,h2_27,o2_6,c2_0,u2_0,hm2⟩
  obtain⟨i2_6,h2_6,b2_6,l2_6⟩:=o2_6.out
  have ni2_6:=znds (x:=i2_6) (n:=S2.n)
  have fL2:=(And.intro h2_25 (And.intro h2_26 (And.intro h2_27 (And.intro h2_6 (And.intro b2_6 ni2_6)))))
  have b5:=flat_le hl c2_0
  have b6:=Nat.mul_le_mul c2_0 (Nat.le_refl 1000)
  have b7:j<L.length→(L.getD j []).length≤1000:=fun h=>hl _ (getD_mem h)
  have cX1:=trivial
  refine dE fL2 ?_
  all_goals try (refine zlf ?_;repeat' first|exact zso|refine And.intro ?_ ?_|(refine zim ?_;intro zb hc)|(refine zin ?_;intro zb)|intro j')
  all_goals try refine zbx ?_
  all_goals try have b8:=b7 (by omega)
  all_goals try exact zaut
  ·focus
    refine q_lp_n ((fun(j:Nat)=>L.length - j) (j+1)) (dC fL2 ?_) ⟨j+1,dC fL2 ?_⟩
    all_goals try (refine zlf ?_;repeat' first|exact zso|refine And.intro ?_ ?_|(refine zim ?_;intro zb hc)|(refine zin ?_;intro zb)|intro j')
    all_goals try refine zbx ?_
   all_goals(rw[flat_take (by omega)]<;>simp only[List.length_append])
  ·rw[List.take_of_length_le (by omega)]
theorem cc2 {m e1 e2:Bool} (a b:List Int) (ha:a.length≤1000) (hb:b.length≤1000):Fun Tryz.prog 214 [.sl (.lent m) [.sl (.lent e1) (a.map (PV.int .i64)),.sl (.lent e2) (b.map (PV.int .i64))]] [.sl .own ((a++b).map (PV.int .i64))]:=by
 have h:=slices_Concat_int_int_c (m0:=true) (e0:=true) [a,b] (by simp) (fun l hl=>by simp at hl;rcases hl with rfl|rfl<;>assumption)
 simp only[List.flatten_cons,List.flatten_nil,List.append_nil]at h
 refine Fun.wk ?_ h
 have hi:∀a:Int,wk (PV.int .i64 a)=PV.int .i64 a:=fun _=>rfl
 cases m<;>cases e1<;>cases e2<;>simp[wkL,wk,Fl.lent,wkL_map hi,elI]
def sumP (a b:List Int) (skew:Bool):List Int:=if skew then a.map (fun x=>x+(b.length:Int))++b else a++b.map (fun x=>x+(a.length:Int))
theorem sumP_len {a b:List Int} {k:Bool}:(sumP a b k).length=a.length+b.length:=by cases k<;>simp[sumP]
theorem impl_sum_c {m0 m1:Bool} (a:List Int) (b:List Int) (k:Bool) (h1:a.length≤1000) (h2:b.length≤1000) (h3:∀x∈a, -1000000≤x∧x≤1000000) (h4:∀x∈b, -1000000≤x∧x≤1000000):Fun Tryz.prog 192 [(.sl (.lent m0) (List.map (PV.int .i64) (a))),(.sl (.lent m1) (List.map (PV.int .i64) (b))),(.bool (k))] [(.sl .own (List.map (PV.int .i64) (sumP a b k)))]:=by
 refine fO sg0 [6] Tryz.func192 ?_
 have cE1:= @impl_raised_c;have cE2:= @slices_Concat_int_int_c
 have cE1:= @cc2;have cE2:= @impl_raised_c;have cE3:= @slices_Concat_int_int_c
 refine dEa trivial ?_
 all_goals try (refine zlf ?_;repeat' first|exact zso|refine And.intro ?_ ?_|(refine zim ?_;intro zb hc)|(refine zin ?_;intro zb)|intro j')
 all_goals try refine zbx ?_
 all_goals(subst hc;simp[sumP])
theorem add_perm {a b:List Int} {n:Nat} (ha:permB a=true) (hb:permB b=true) (e:n=b.length):(a.map fun x=>x+(n:Int)).Nodup∧(∀x∈a.map fun x=>x+(n:Int),(b.length:Int)<x∧x≤a.length+b.length):=by
 subst e
 obtain⟨a1,a2⟩:=permB_iff.1 ha
 refine⟨nodup_map a2 fun x _ y _ h=>by omega,fun x hx=> ?_⟩
 obtain⟨y,hy,rfl⟩:=List.mem_map.1 hx
 have:=a1 y hy
 omega
theorem sumP_perm {a b:List Int} {k:Bool} (ha:permB a=true) (hb:permB b=true):permB (sumP a b k)=true:=by
 rw[permB_iff,sumP_len]
 obtain⟨a1,a2⟩:=permB_iff.1 ha
 obtain⟨b1,b2⟩:=permB_iff.1 hb
 cases k
 ·obtain⟨h1,h2⟩:=add_perm (n:=a.length) hb ha rfl
  simp only[sumP,Bool.false_eq_true,if_false]
  refine⟨fun x hx=> ?_,List.nodup_append.2 ⟨a2,h1,fun x hx y hy e=> ?_⟩⟩
  ·rcases List.mem_append.1 hx with hx|hx
   ·have:=a1 x hx;omega
   ·have:=h2 x hx;omega
  ·have:=a1 x hx;have:=h2 y hy;omega
 ·obtain⟨h1,h2⟩:=add_perm (n:=b.length) ha hb rfl
  simp only[sumP,if_true]
  refine⟨fun x hx=> ?_,List.nodup_append.2 ⟨h1,b2,fun x hx y hy e=> ?_⟩⟩
  ·rcases List.mem_append.1 hx with hx|hx
   ·have:=h2 x hx;omega
   ·have:=b1 x hx;omega
  ·have:=h2 x hx;have:=b1 y hy;omega
def joinL (L:List (List Int)) (k:Bool):List Int:=L.foldl (fun t p=>sumP t p k) []
theorem joinL_succ {L:List (List Int)} {k:Bool} {j:Nat} (h:j<L.length):joinL (L.take (j+1)) k=sumP (joinL (L.take j) k) (L.getD j []) k:=by
 rw[take_getD (d:=[]) h,joinL,List.foldl_append];rfl
def lenS (L:List (List Int)):Nat:=(L.map List.length).sum
theorem lenS_succ {L:List (List Int)} {j:Nat} (h:j<L.length):lenS (L.take (j+1))=lenS (L.take j)+(L.getD j []).length:=by
 rw[take_getD (d:=[]) h,lenS,List.map_append,List.sum_append];simp[lenS]
theorem joinL_len {L:List (List Int)} {k:Bool}:∀{j:Nat},j≤L.length→(joinL (L.take j) k).length=lenS (L.take j)
 |0,_=>rfl
 |j+1,h=>by rw[joinL_succ (by omega),lenS_succ (by omega),sumP_len,joinL_len (by omega)]
theorem joinL_perm {L:List (List Int)} {k:Bool} (hL:∀l∈L,permB l=true):∀{j:Nat},j≤L.length→permB (joinL (L.take j) k)=true
 |0,_=>by rfl
 |j+1,h=>by rw[joinL_succ (by omega)];exact sumP_perm (joinL_perm hL (by omega)) (hL _ (getD_mem (by omega)))
theorem lenS_take {L:List (List Int)}:∀{j:Nat},lenS (L.take j)≤lenS L:=fun {j}=>by
 have:lenS L=lenS (L.take j)+lenS (L.drop j):=by
  unfold lenS;rw[←List.sum_append,←List.map_append,List.take_append_drop]
 omega
theorem lenS_drop {L:List (List Int)}:∀{j:Nat},lenS (L.drop j)≤lenS L:=fun {j}=>by
 have:lenS L=lenS (L.take j)+lenS (L.drop j):=by
  unfold lenS;rw[←List.sum_append,←List.map_append,List.take_append_drop]
 omega
theorem lenS_mem {L:List (List Int)} {l:List Int} (h:l∈L):l.length≤lenS L:=by
 induction L with
 |nil=>cases h
 |cons x L ih=>
  have e:lenS (x::L)=x.length+lenS L:=by simp[lenS]
  rcases List.mem_cons.1 h with rfl|h
  ·omega
  ·have:=ih h;omega
theorem joinL_b {L:List (List Int)} {k:Bool} (hl:∀l∈L,l.length≤8) (hb:∀l∈L,∀x∈l,0≤x∧x≤8):∀{j:Nat},j≤L.length→j≤8→(joinL (L.take j) k).length≤8*j∧∀x∈joinL (L.take j) k,0≤x∧x≤100*j
 |0,_,_=>⟨Nat.zero_le _,fun x hx=>by cases hx⟩
 |j+1,h,h8=>by
  obtain⟨h1,h2⟩:=joinL_b (k:=k) hl hb (j:=j) (by omega) (by omega)
  have h3:=hl _ (getD_mem (d:=[]) (show j<L.length by omega))
  have h4:=hb _ (getD_mem (d:=[]) (show j<L.length by omega))
  rw[joinL_succ (by omega)]
  refine⟨by rw[sumP_len];omega,fun x hx=> ?_⟩
  cases k
  ·simp only[sumP,Bool.false_eq_true,if_false,List.mem_append,List.mem_map]at hx
   rcases hx with hx|⟨y,hy,rfl⟩
   ·have:=h2 x hx;omega
   ·have:=h4 y hy;omega
  ·simp only[sumP,if_true,List.mem_append,List.mem_map]at hx
   rcases hx with⟨y,hy,rfl⟩|hx
   ·have:=h2 y hy;omega
   ·have:=h4 x hx;omega
theorem impl_joinParts_c {e0 m0:Bool} (L:List (List Int)) (k:Bool) (hL:L.length≤8) (hl:∀l∈L,l.length≤8) (hb:∀l∈L,∀x∈l,0≤x∧x≤8):Fun Tryz.prog 167 [(.sl (.lent m0) (List.map (elI e0) (L))),(.bool (k))] [(.sl .own (List.map (PV.int .i64) (joinL L k)))]:=by
 refine fO sg0 [4] Tryz.func167 ?_
 have cE1:= @impl_sum_c
 refine dEa trivial ?_
 all_goals try (refine zlf ?_;repeat' first|exact zso|refine And.intro ?_ ?_|(refine zim ?_;intro zb hc)|(refine zin ?_;intro zb)|intro j')
 all_goals try refine zbx ?_
 refine v_loopB (fun ms1 S1=>∃(j:Nat),S1.e 1=.p (.bool (k))∧S1.e 9=.p (.sl (.lent m0) (List.map (elI e0) (L)))∧S1.e 10=.p (.int .i64 (L.length))∧S1.e 11=.p (.int .i64 (j))∧OwnL (S1.e 5) S1.h S1.n (PV.int .i64) ((joinL (L.take j) k).length) (joinL (L.take j) k)∧(j≤L.length)∧ms1=L.length - j) ((fun(j:Nat)=>L.length - j) (0)) ?_ ⟨0,dI trivial ?_⟩
 all_goals try (refine zlf ?_;repeat' first|exact zso|refine And.intro ?_ ?_|(refine zim ?_;intro zb hc)|(refine zin ?_;intro zb)|intro j')
 all_goals try refine zbx ?_
 rintro ms1 S1 ⟨j,h1_1,h1_9,h1_10,h1_11,o1_5,c1_0,hm1⟩
 obtain⟨i1_5,h1_5,b1_5,l1_5⟩:=o1_5.out
 have ni1_5:=znds (x:=i1_5) (n:=S1.n)
 have fL1:=(And.intro h1_1 (And.intro h1_9 (And.intro h1_10 (And.intro h1_11 (And.intro h1_5 (And.intro b1_5 ni1_5))))))
 obtain⟨b1,b2⟩:=joinL_b (k:=k) hl hb c1_0 (by omega)
 have b3:j<L.length→(L.getD j []).length≤8∧∀x∈L.getD j [],0≤x∧x≤8:=fun h=>⟨hl _ (getD_mem h),hb _ (getD_mem h)⟩
 have b4:∀x∈joinL (L.take j) k, -1000000≤x∧x≤1000000:=fun x hx=>by have:=b2 x hx;omega
 refine dE fL1 ?_
 all_goals try (refine zlf ?_;repeat' first|exact zso|refine And.intro ?_ ?_|(refine zim ?_;intro zb hc)|(refine zin ?_;intro zb)|intro j')
 all_goals try refine zbx ?_
 all_goals try have b5:=(b3 (by omega)).1
 all_goals try have b6:=(b3 (by omega)).2
 all_goals try have b7:∀x∈L.getD j [], -1000000≤x∧x≤1000000:=fun x hx=>by have:=b6 x hx;omega
 all_goals try exact zaut
 ·focus
   refine q_lp_n ((fun(j:Nat)=>L.length - j) (j+1)) (dC fL1 ?_) ⟨j+1,dC fL1 ?_⟩
   all_goals try (refine zlf ?_;repeat' first|exact zso|refine And.intro ?_ ?_|(refine zim ?_;intro zb hc)|(refine zin ?_;intro zb)|intro j')
   all_goals try refine zbx ?_
  all_goals(rw[joinL_succ (by omega)])
 ·rw[List.take_of_length_le (by omega)]
def sumPt (p:List Int):List (List Int):=(spG shI p p.length).1
def mixC (L:List (List Int)) (j:Nat):List (List Int):=(L.take j).map cplL++L.drop j
theorem mixC_len {L:List (List Int)} {j:Nat}:(mixC L j).length=L.length:=by simp[mixC];omega
theorem mixC_at {L:List (List Int)} {j:Nat} (h:j<L.length):(mixC L j).getD j []=L.getD j []:=by
 simp only[mixC,List.getD_eq_getElem?_getD]
 rw[List.getElem?_append_right (by simp;omega)]
 simp[Nat.min_eq_left (Nat.le_of_lt h)]
theorem mixC_set {L:List (List Int)} {j:Nat} (h:j<L.length):(mixC L j).set j (cplL (L.getD j []))=mixC L (j+1):=by
 simp only[mixC]
 rw[List.set_append_right _ _ (by simp;omega),List.length_map,List.length_take,Nat.min_eq_left (by omega),Nat.sub_self,take_getD (d:=[]) h]
 rw[show L.drop j=L.getD j []::L.drop (j+1)by rw[List.getD_eq_getElem?_getD,List.getElem?_eq_getElem h];exact(List.drop_eq_getElem_cons h)]
 simp
theorem spG_parts {p:List Int} (hp:permB p=true):∀{k:Nat},k≤p.length→(∀l∈(spG ptI p k).1,permB l=true)∧lenS (spG ptI p k).1=(spG ptI p k).2.1
 |0,_=>⟨fun l hl=>(by cases hl),rfl⟩
 |k+1,h=>by
  obtain⟨h1,h2⟩:=spG_parts hp (k:=k) (by omega)
  have h3:=(spG_from (g:=ptI) (p:=p) (k:=k)).1
  rw[spG]
  split
  ·refine⟨fun l hl=> ?_, ?_⟩
   ·rcases List.mem_append.1 hl with hl|hl
    ·exact h1 l hl
    ·simp only[List.mem_singleton]at hl;subst hl
     exact patL_perm (nodup_take (permB_iff.1 hp).2)
   ·simp only[lenS]at h2 ⊢
    rw[List.map_append,List.sum_append,h2]
    simp[ptI,patL_len,segL_len h];omega
  ·exact⟨h1,h2⟩
theorem sumPt_pt {p:List Int} (hp:permB p=true):(spG ptI p p.length).1=sumPt p:=by rw[sumPt,spG_pt hp (Nat.le_refl _)]
theorem sumPt_f {p:List Int} (hp:isPermB p=true):(∀l∈sumPt p,permB l=true)∧lenS (sumPt p)≤8∧(sumPt p).length≤8∧(∀l∈sumPt p,isPermB l=true∧l.length≤8∧∀x∈l,0≤x∧x≤8):=by
 obtain⟨hl,hq⟩:=isPerm_facts hp
 obtain⟨h1,h2⟩:=spG_parts hq (Nat.le_refl _)
 have h3:=spG_from (g:=ptI) (p:=p) (k:=p.length)
 rw[sumPt_pt hq]at h1 h2 h3
 refine⟨h1,by omega,by omega,fun l hx=> ?_⟩
 have h4:=lenS_mem hx
 have h5:isPermB l=true:=by simp only[isPermB,h1 l hx,Bool.and_true,decide_eq_true_eq];omega
 exact⟨h5,by omega,perm_b8 h5⟩
theorem cplL_isPerm {p:List Int} (hp:isPermB p=true):isPermB (cplL p)=true:=by
 obtain⟨hl,hq⟩:=isPerm_facts hp
 simp only[isPermB,cplL_perm hq,cplL_len,hl,decide_true,Bool.and_self]
def skewPt (p:List Int):List (List Int):=(sumPt (cplL p)).map cplL
theorem impl_skewParts_c {m0:Bool} (p:List Int) (hp:isPermB p=true):Fun Tryz.prog 168 [(.sl (.lent m0) (List.map (PV.int .i64) (p)))] [(.sl .own (List.map (elI false) (skewPt p)))]:=by
 refine fO sg0 [2] Tryz.func168 ?_
 have cE1:= @impl_complement_c;have cE2:= @impl_sumParts_c
 have hl:=(isPerm_facts hp).1
 have hq:=permB_iff.1 (isPerm_facts hp).2
 have hb:=perm_b8 hp
 have b1:(cplL p).length≤8:=by rw[cplL_len];exact hl
 have b2:=perm_b8 (cplL_isPerm hp)
 have b3:=sumPt_f (cplL_isPerm hp)
 have b4:∀x∈p,0≤x∧x≤1048576:=fun x hx=>by have:=hb x hx;omega
 have b5:(spG shI (cplL p) (cplL p).length).1=sumPt (cplL p):=rfl
 refine dEa @b5 ?_
 all_goals try (refine zlf ?_;repeat' first|exact zso|refine And.intro ?_ ?_|(refine zim ?_;intro zb hc)|(refine zin ?_;intro zb)|intro j')
 all_goals try refine zbx ?_
 refine v_loopB (fun ms1 S1=>∃(j:Nat),OwnL (S1.e 3) S1.h S1.n (elI false) ((mixC (sumPt (cplL p)) j).length) (mixC (sumPt (cplL p)) j)∧S1.e 9=S1.e 3∧S1.e 10=.p (.int .i64 ((sumPt (cplL p)).length))∧S1.e 11=.p (.int .i64 (j))∧(j≤(sumPt (cplL p)).length)∧ms1=(sumPt (cplL p)).length - j) ((fun(j:Nat)=>(sumPt (cplL p)).length - j) (0)) ?_ ⟨0,dC trivial ?_⟩
 all_goals try (refine zlf ?_;repeat' first|exact zso|refine And.intro ?_ ?_|(refine zim ?_;intro zb hc)|(refine zin ?_;intro zb)|intro j')
 all_goals try refine zbx ?_
 rintro ms1 S1 ⟨j,o1_3,h1_9,h1_10,h1_11,c1_0,hm1⟩
 obtain⟨i1_3,h1_3,b1_3,l1_3⟩:=o1_3.out
 have ni1_3:=znds (x:=i1_3) (n:=S1.n)
 have fL1:=(And.intro h1_9 (And.intro h1_10 (And.intro h1_11 (And.intro h1_3 (And.intro b1_3 ni1_3)))))
 have b6:=mixC_len (L:=sumPt (cplL p)) (j:=j)
 have b7:j<(sumPt (cplL p)).length→(mixC (sumPt (cplL p)) j).getD j []=(sumPt (cplL p)).getD j []:=fun h=>mixC_at h
 have b8:j<(sumPt (cplL p)).length→((sumPt (cplL p)).getD j []).length≤8∧∀x∈(sumPt (cplL p)).getD j [],0≤x∧x≤1048576:=fun h=>⟨(b3.2.2.2 _ (getD_mem h)).2.1,fun x hx=>by have:=(b3.2.2.2 _ (getD_mem h)).2.2 x hx;omega⟩
 by_cases hj:j<(sumPt (cplL p)).length
 ·have b9:=b8 hj
  have b10:=b7 hj
  rw[←b10]at b9
  have b11:=b9.1
  have b12:=b9.2
  refine dEa fL1 ?_
  all_goals try (refine zlf ?_;repeat' first|exact zso|refine And.intro ?_ ?_|(refine zim ?_;intro zb hc)|(refine zin ?_;intro zb)|intro j')
  all_goals try refine zbx ?_
  focus
   refine q_lp_n ((fun(j:Nat)=>(sumPt (cplL p)).length - j) (j+1)) (dC fL1 ?_) ⟨j+1,dC fL1 ?_⟩
   all_goals try (refine zlf ?_;repeat' first|exact zso|refine And.intro ?_ ?_|(refine zim ?_;intro zb hc)|(refine zin ?_;intro zb)|intro j')
   all_goals try refine zbx ?_
  all_goals(first|(rw[b10,mixC_set hj])|(rw[mixC_len,mixC_len]))
 ·refine dEa fL1 ?_
  all_goals try (refine zlf ?_;repeat' first|exact zso|refine And.intro ?_ ?_|(refine zim ?_;intro zb hc)|(refine zin ?_;intro zb)|intro j')
  all_goals try refine zbx ?_
  obtain rfl:j=(sumPt (cplL p)).length:=by omega
  simp[mixC,skewPt]
theorem spec_l4Join_c {m0 m1:Bool} (a:List Int) (b:List Int) (k:Bool) (h1:a.length≤1000) (h2:b.length≤1000) (h3:∀x∈a, -1000000≤x∧x≤1000000) (h4:∀x∈b, -1000000≤x∧x≤1000000):Fun Tryz.prog 212 [(.sl (.lent m0) (List.map (PV.int .i64) (a))),(.sl (.lent m1) (List.map (PV.int .i64) (b))),(.bool (k))] [(.sl .own (List.map (PV.int .i64) (sumP a b k)))]:=by
 refine fO sg0 [6] Tryz.func212 ?_
 have cE1:= @spec_l1Bit_c;have cD1:=zdh [false,false,false,false,false,false,true,false,false,false,false,true,true,false] [(0,6),(1,6),(2,6),(3,6),(4,6),(6,7),(6,8),(0,11)];have cD2:=zdh [false,false,false,false,false,false,false,true,false,false,false,false,true,true,false] [(0,7),(1,7),(2,7),(3,7),(4,7),(7,8),(7,9),(0,12)]
 have e1:bitI k=if k then 1 else 0:=rfl
 refine dEa trivial ?_
 all_goals try (refine zlf ?_;repeat' first|exact zso|refine And.intro ?_ ?_|(refine zim ?_;intro zb hc)|(refine zin ?_;intro zb)|intro j')
 all_goals try refine zbx ?_
 refine v_loopB (fun ms1 S1=>∃(i:Nat),S1.e 0=.p (.sl (.lent m0) (List.map (PV.int .i64) (a)))∧S1.e 1=.p (.sl (.lent m1) (List.map (PV.int .i64) (b)))∧S1.e 2=.p (.bool (k))∧S1.e 8=.p (.int .i64 (i))∧OwnL (S1.e 7) S1.h S1.n (PV.int .i64) (((a.take i).map (fun x=>x+bitI k*b.length)).length) ((a.take i).map (fun x=>x+bitI k*b.length))∧(i≤a.length)∧ms1=a.length - i) ((fun(i:Nat)=>a.length - i) (0)) ?_ ⟨0,dI trivial ?_⟩
 all_goals try (refine zlf ?_;repeat' first|exact zso|refine And.intro ?_ ?_|(refine zim ?_;intro zb hc)|(refine zin ?_;intro zb)|intro j')
 all_goals try refine zbx ?_
 rintro ms1 S1 ⟨i,h1_0,h1_1,h1_2,h1_8,o1_7,c1_0,hm1⟩
 obtain⟨i1_7,h1_7,b1_7,l1_7⟩:=o1_7.out
 have ni1_7:=znds (x:=i1_7) (n:=S1.n)
 have fL1:=(And.intro h1_0 (And.intro h1_1 (And.intro h1_2 (And.intro h1_8 (And.intro h1_7 (And.intro b1_7 ni1_7))))))
 have b1:i<a.length→ -1000000≤a.getD i 0∧a.getD i 0≤1000000:=fun h=>h3 _ (getD_mem h)
 have b2:0≤bitI k*(b.length:Int)∧bitI k*(b.length:Int)≤1000:=by cases k<;>simp[bitI]<;>omega
 refine dE fL1 ?_
 all_goals try (refine zlf ?_;repeat' first|exact zso|refine And.intro ?_ ?_|(refine zim ?_;intro zb hc)|(refine zin ?_;intro zb)|intro j')
 all_goals try refine zbx ?_
 all_goals try have b3:=b1 (by omega)
 all_goals try exact zaut
 ·focus
   refine q_lp_n ((fun(i:Nat)=>a.length - i) (i+1)) (dC fL1 ?_) ⟨i+1,dC fL1 ?_⟩
   all_goals try (refine zlf ?_;repeat' first|exact zso|refine And.intro ?_ ?_|(refine zim ?_;intro zb hc)|(refine zin ?_;intro zb)|intro j')
   all_goals try refine zbx ?_
  all_goals(rw[take_getD (d:=0) (by omega),List.map_append];rfl)
 ·refine v_loopB (fun ms2 S2=>∃(j:Nat),S2.e 0=.p (.sl (.lent m0) (List.map (PV.int .i64) (a)))∧S2.e 1=.p (.sl (.lent m1) (List.map (PV.int .i64) (b)))∧S2.e 2=.p (.bool (k))∧S2.e 9=.p (.int .i64 (j))∧OwnL (S2.e 7) S2.h S2.n (PV.int .i64) ((a.map (fun x=>x+bitI k*b.length)++(b.take j).map (fun x=>x+bitI (!k)*a.length)).length) (a.map (fun x=>x+bitI k*b.length)++(b.take j).map (fun x=>x+bitI (!k)*a.length))∧(j≤b.length)∧S1.n≤S2.n∧ms2=b.length - j) ((fun(j:Nat)=>b.length - j) (0)) ?_ ⟨0,dI fL1 ?_⟩
  all_goals try (refine zlf ?_;repeat' first|exact zso|refine And.intro ?_ ?_|(refine zim ?_;intro zb hc)|(refine zin ?_;intro zb)|intro j')
  all_goals try refine zbx ?_
  rintro ms2 S2 ⟨j,h2_0,h2_1,h2_2,h2_9,o2_7,c2_0,u2_0,hm2⟩
  obtain⟨i2_7,h2_7,b2_7,l2_7⟩:=o2_7.out
  have ni2_7:=znds (x:=i2_7) (n:=S2.n)
  have fL2:=(And.intro h2_0 (And.intro h2_1 (And.intro h2_2 (And.intro h2_9 (And.intro h2_7 (And.intro b2_7 ni2_7))))))
  have b4:j<b.length→ -1000000≤b.getD j 0∧b.getD j 0≤1000000:=fun h=>h4 _ (getD_mem h)
  have b5:0≤bitI (!k)*(a.length:Int)∧bitI (!k)*(a.length:Int)≤1000:=by cases k<;>simp[bitI]<;>omega
  refine dE fL2 ?_
  all_goals try (refine zlf ?_;repeat' first|exact zso|refine And.intro ?_ ?_|(refine zim ?_;intro zb hc)|(refine zin ?_;intro zb)|intro j')
  all_goals try refine zbx ?_
  all_goals try have b6:=b4 (by omega)
  all_goals try exact zaut
  ·focus
    refine q_lp_n ((fun(j:Nat)=>b.length - j) (j+1)) (dC fL2 ?_) ⟨j+1,dC fL2 ?_⟩
    all_goals try (refine zlf ?_;repeat' first|exact zso|refine And.intro ?_ ?_|(refine zim ?_;intro zb hc)|(refine zin ?_;intro zb)|intro j')
    all_goals try refine zbx ?_
   all_goals(rw[take_getD (d:=0) (by omega),List.map_append];try rfl)
  ·rw[List.take_of_length_le (by omega)]
   cases k<;>simp[sumP,bitI]
  all_goals(rw[List.take_of_length_le (by omega)];try simp)
theorem spec_l4Fit_c {m0 m1:Bool} (a:List Int) (b:List Int) (h1:a.length≤1048576) (h2:b.length≤1048576):Fun Tryz.prog 211 [(.sl (.lent m0) (List.map (PV.int .i64) (a))),(.sl (.lent m1) (List.map (PV.int .i64) (b)))] [(.bool ((isPermB a&&isPermB b&&decide (a.length+b.length≤8))))]:=by
 refine fO sg0 [4] Tryz.func211 ?_
 have cE1:= @spec_IsPerm_c
 refine dEa trivial ?_
 all_goals try (refine zlf ?_;repeat' first|exact zso|refine And.intro ?_ ?_|(refine zim ?_;intro zb hc)|(refine zin ?_;intro zb)|intro j')
 all_goals try refine zbx ?_
 all_goals(congr 1;exact propext (by omega))
theorem fit_j {L:List (List Int)} {k:Bool} (hL:∀l∈L,permB l=true) (h8:lenS L≤8) {j:Nat} (h:j<L.length):isPermB (joinL (L.take j) k)=true∧isPermB (L.getD j [])=true∧(joinL (L.take j) k).length+(L.getD j []).length≤8:=by
 have h1:=joinL_len (k:=k) (show j≤L.length by omega)
 have h2:=lenS_succ h
 have h3:=lenS_take (L:=L) (j:=j+1)
 have h4:=joinL_perm (k:=k) hL (show j≤L.length by omega)
 have h5:=hL _ (getD_mem (d:=[]) h)
 refine⟨?_, ?_,by omega⟩
 ·simp only[isPermB,h4,Bool.and_true,decide_eq_true_eq];omega
 ·simp only[isPermB,h5,Bool.and_true,decide_eq_true_eq];omega
theorem spec_JoinParts_c {e0 m0:Bool} (L:List (List Int)) (k:Bool) (hL:L.length≤8) (hp:∀l∈L,permB l=true) (h8:lenS L≤8):Fun Tryz.prog 187 [(.sl (.lent m0) (List.map (elI e0) (L))),(.bool (k))] [(.sl .own (List.map (PV.int .i64) (joinL L k))),(.bool (true))]:=by
 refine fO sg0 [4,5] Tryz.func187 ?_
 have cE1:= @spec_l4Fit_c;have cE2:= @spec_l4Join_c
 refine dEa trivial ?_
 all_goals try (refine zlf ?_;repeat' first|exact zso|refine And.intro ?_ ?_|(refine zim ?_;intro zb hc)|(refine zin ?_;intro zb)|intro j')
 all_goals try refine zbx ?_
 refine v_loopB (fun ms1 S1=>∃(j:Nat),S1.e 0=.p (.sl (.lent m0) (List.map (elI e0) (L)))∧S1.e 1=.p (.bool (k))∧S1.e 7=.p (.int .i64 (j))∧OwnL (S1.e 6) S1.h S1.n (PV.int .i64) ((joinL (L.take j) k).length) (joinL (L.take j) k)∧(j≤L.length)∧ms1=L.length - j) ((fun(j:Nat)=>L.length - j) (0)) ?_ ⟨0,dC trivial ?_⟩
 all_goals try (refine zlf ?_;repeat' first|exact zso|refine And.intro ?_ ?_|(refine zim ?_;intro zb hc)|(refine zin ?_;intro zb)|intro j')
 all_goals try refine zbx ?_
 rintro ms1 S1 ⟨j,h1_0,h1_1,h1_7,o1_6,c1_0,hm1⟩
 obtain⟨i1_6,h1_6,b1_6,l1_6⟩:=o1_6.out
 have ni1_6:=znds (x:=i1_6) (n:=S1.n)
 have fL1:=(And.intro h1_0 (And.intro h1_1 (And.intro h1_7 (And.intro h1_6 (And.intro b1_6 ni1_6)))))
 by_cases hj:j<L.length
 ·obtain⟨b1,b2,b3⟩:=fit_j (k:=k) hp h8 hj
  have b4:=(isPerm_facts b1).1
  have b5:=(isPerm_facts b2).1
  have b6:∀x∈joinL (L.take j) k, -1000000≤x∧x≤1000000:=fun x hx=>by have:=perm_b8 b1 x hx;omega
  have b7:∀x∈L.getD j [], -1000000≤x∧x≤1000000:=fun x hx=>by have:=perm_b8 b2 x hx;omega
  have b8:decide ((joinL (L.take j) k).length+(L.getD j []).length≤8)=true:=decide_eq_true b3
  refine dEa (And.intro fL1 (And.intro @b1 (And.intro @b2 @b8))) ?_
  all_goals try (refine zlf ?_;repeat' first|exact zso|refine And.intro ?_ ?_|(refine zim ?_;intro zb hc)|(refine zin ?_;intro zb)|intro j')
  all_goals try refine zbx ?_
  ·focus
    refine q_lp_n ((fun(j:Nat)=>L.length - j) (j+1)) (dC fL1 ?_) ⟨j+1,dC fL1 ?_⟩
    all_goals try (refine zlf ?_;repeat' first|exact zso|refine And.intro ?_ ?_|(refine zim ?_;intro zb hc)|(refine zin ?_;intro zb)|intro j')
    all_goals try refine zbx ?_
   all_goals(rw[joinL_succ (by omega)])
 ·refine dEa fL1 ?_
  all_goals try (refine zlf ?_;repeat' first|exact zso|refine And.intro ?_ ?_|(refine zim ?_;intro zb hc)|(refine zin ?_;intro zb)|intro j')
  all_goals try refine zbx ?_
  rw[List.take_of_length_le (by omega)]
theorem spec_SkewParts_c {m0:Bool} (p:List Int) (hp:isPermB p=true):Fun Tryz.prog 161 [(.sl (.lent m0) (List.map (PV.int .i64) (p)))] [(.sl .own (List.map (elI false) (skewPt p)))]:=by
 refine fO sg0 [2] Tryz.func161 ?_
 have cE1:= @spec_IsPerm_c;have cE2:= @spec_l3Complement_c;have cE3:= @spec_SumParts_c
 have hl:=(isPerm_facts hp).1
 have hq:=(isPerm_facts hp).2
 have hb:=perm_b8 hp
 have b1:=cplL_isPerm hp
 have b3:=sumPt_f (cplL_isPerm hp)
 have b4:∀x∈p,0≤x∧x≤1048576:=fun x hx=>by have:=hb x hx;omega
 have b5:(spG ptI (cplL p) (cplL p).length).1=sumPt (cplL p):=sumPt_pt (isPerm_facts b1).2
 refine dEa (And.intro @b5 @hp) ?_
 all_goals try (refine zlf ?_;repeat' first|exact zso|refine And.intro ?_ ?_|(refine zim ?_;intro zb hc)|(refine zin ?_;intro zb)|intro j')
 all_goals try refine zbx ?_
 refine v_loopB (fun ms1 S1=>∃(j:Nat),OwnL (S1.e 4) S1.h S1.n (elI false) ((sumPt (cplL p)).length) (sumPt (cplL p))∧S1.e 5=.p (.int .i64 (j))∧OwnL (S1.e 3) S1.h S1.n (elI false) ((((sumPt (cplL p)).take j).map cplL).length) (((sumPt (cplL p)).take j).map cplL)∧(j≤(sumPt (cplL p)).length)∧NId (S1.e 3) (S1.e 4)∧ms1=(sumPt (cplL p)).length - j) ((fun(j:Nat)=>(sumPt (cplL p)).length - j) (0)) ?_ ⟨0,dC trivial ?_⟩
 all_goals try (refine zlf ?_;repeat' first|exact zso|refine And.intro ?_ ?_|(refine zim ?_;intro zb hc)|(refine zin ?_;intro zb)|intro j')
 all_goals try refine zbx ?_
 rintro ms1 S1 ⟨j,o1_4,h1_5,o1_3,c1_0,u1_0,hm1⟩
 obtain⟨i1_4,h1_4,b1_4,l1_4⟩:=o1_4.out
 obtain⟨i1_3,h1_3,b1_3,l1_3⟩:=o1_3.out
 have k1_0:=(u1_0).out h1_3 h1_4
 have ni1_4:=znds (x:=i1_4) (n:=S1.n)
 have ni1_3:=znds (x:=i1_3) (n:=S1.n)
 have di1_4i1_3:=zdne (x:=i1_4) (y:=i1_3)
 have fL1:=(And.intro h1_5 (And.intro h1_4 (And.intro b1_4 (And.intro h1_3 (And.intro b1_3 (And.intro ni1_4 (And.intro ni1_3 di1_4i1_3)))))))
 have b8:j<(sumPt (cplL p)).length→((sumPt (cplL p)).getD j []).length≤8∧∀x∈(sumPt (cplL p)).getD j [],0≤x∧x≤1048576:=fun h=>⟨(b3.2.2.2 _ (getD_mem h)).2.1,fun x hx=>by have:=(b3.2.2.2 _ (getD_mem h)).2.2 x hx;omega⟩
 by_cases hj:j<(sumPt (cplL p)).length
 ·have b9:=b8 hj
  have b11:=b9.1
  have b12:=b9.2
  refine dEa fL1 ?_
  all_goals try (refine zlf ?_;repeat' first|exact zso|refine And.intro ?_ ?_|(refine zim ?_;intro zb hc)|(refine zin ?_;intro zb)|intro j')
  all_goals try refine zbx ?_
  focus
   refine q_lp_n ((fun(j:Nat)=>(sumPt (cplL p)).length - j) (j+1)) (dC fL1 ?_) ⟨j+1,dC fL1 ?_⟩
   all_goals try (refine zlf ?_;repeat' first|exact zso|refine And.intro ?_ ?_|(refine zim ?_;intro zb hc)|(refine zin ?_;intro zb)|intro j')
   all_goals try refine zbx ?_
  all_goals(rw[take_getD (d:=[]) hj,List.map_append];rfl)
 ·refine dEa fL1 ?_
  all_goals try (refine zlf ?_;repeat' first|exact zso|refine And.intro ?_ ?_|(refine zim ?_;intro zb hc)|(refine zin ?_;intro zb)|intro j')
  all_goals try refine zbx ?_
  obtain rfl:j=(sumPt (cplL p)).length:=by omega
  simp[skewPt]
theorem spec_l6Sum_c {m0:Bool} (L:List (List Int)) (k:Bool) (h0:1≤L.length) (hL:L.length≤8) (hp:∀l∈L,permB l=true) (h8:lenS L≤8):Fun Tryz.prog 160 [(.sl (.lent m0) (List.map (elI false) (L))),(.bool (k))] [(.agg [(.sl (.lent false) (List.map (PV.int .i64) ((if k then[2,1]else[1,2])))),(.sl (.lent false) (List.map (elI false) ([L.getD 0 [],joinL (L.drop 1) k])))])]:=by
 refine Fun.ofR (sg:=sg0) (rs:=[.cell 4 48]) mo Tryz.func160 rfl rfl rfl rfl (by kernel_rfl) (by simp only[go_sem]) rfl ?_
 have cE1:= @spec_JoinParts_c
 have b1:(L.drop 1).length≤8:=by simp;omega
 have b2:∀l∈L.drop 1,permB l=true:=fun l hl=>hp l (List.mem_of_mem_drop hl)
 have b3:lenS (L.drop 1)≤8:=Nat.le_trans lenS_drop h8
 have b4:=lenS_mem (getD_mem (d:=[]) (show 0<L.length by omega))
 refine dEa trivial ?_
 all_goals try (refine zlf ?_;repeat' first|exact zso|refine And.intro ?_ ?_|(refine zim ?_;intro zb hc)|(refine zin ?_;intro zb)|intro j')
 all_goals try refine zbx ?_
def endK (p:List Int) (a:Nat):Nat→Nat
 |0=>a+1
 |k+1=>if a+2≤k+1∧k+1 - a<p.length∧isIntB p a (k+1:Nat)=true then k+1 else endK p a k
theorem endK_b {p:List Int} {a:Nat}:∀{k:Nat},a+1≤endK p a k∧(endK p a k≤k∨endK p a k=a+1)
 |0=>by simp[endK]
 |k+1=>by
  have:=endK_b (p:=p) (a:=a) (k:=k)
  rw[endK];split<;>omega
theorem endK_low {p:List Int} {a:Nat}:∀{k:Nat},k≤a+1→endK p a k=a+1
 |0,_=>rfl
 |k+1,h=>by rw[endK,if_neg (by omega)];exact endK_low (by omega)
def cutL (p:List Int):Nat→Nat×List Int×List (List Int)
 |0=>(0,[],[])
 |j+1=>if(cutL p j).1<p.length then(endK p (cutL p j).1 p.length,(cutL p j).2.1++[p.getD (cutL p j).1 0],(cutL p j).2.2++[patL (segL p (cutL p j).1 (endK p (cutL p j).1 p.length))])else cutL p j
theorem cutL_b {p:List Int}:∀{j:Nat},(cutL p j).1≤p.length∧(j≤(cutL p j).1∨(cutL p j).1=p.length)∧(cutL p j).2.1.length≤(cutL p j).1∧(cutL p j).2.2.length=(cutL p j).2.1.length
 |0=>by simp[cutL]
 |j+1=>by
  have:=cutL_b (p:=p) (j:=j)
  rw[cutL]
  split
  ·have h2:=endK_b (p:=p) (a:=(cutL p j).1) (k:=p.length)
   simp only[List.length_append,List.length_cons,List.length_nil]
   omega
  ·omega
theorem cutL_end {p:List Int} {j:Nat} (h:(cutL p j).1=p.length):∀i,cutL p (j+i)=cutL p j
 |0=>rfl
 |i+1=>by
  rw[←Nat.add_assoc,cutL,cutL_end h i,if_neg (by omega)]
theorem cutL_fin {p:List Int} {j:Nat} (h:(cutL p j).1=p.length):cutL p j=cutL p p.length:=by
 have h1:=cutL_b (p:=p) (j:=p.length)
 have h2:(cutL p p.length).1=p.length:=by omega
 rcases Nat.le_total j p.length with hj|hj
 ·have:=cutL_end h (p.length - j);rw[←this];congr 1;omega
 ·have:=cutL_end h2 (j - p.length);rw[←this];congr 1;omega
theorem isInt_one {p:List Int} {a:Nat} (h:a<p.length):isIntB p a ((a+1:Nat):Int)=true:=by
 have e:segL p a (a+1)=[p.getD a 0]:=by
  apply List.ext_getElem?;intro i
  simp only[segL,List.getElem?_drop,List.getElem?_take]
  cases i with
  |zero=>simp[List.getD_eq_getElem?_getD,List.getElem?_eq_getElem h]
  |succ i=>rw[if_neg (by omega)];simp
 have e2:((a:Int)).toNat=a:=by omega
 have e3:(((a+1:Nat):Int)).toNat=a+1:=by omega
 rw[isIntB,e2,e3,e]
 simp[maxL,minL,maxT,minT]
 omega
def splL (p:List Int):List Int×List (List Int):=
 if p.length=1 then([1],[[1]])else
 if 1<(sumPt p).length then([1,2],[(sumPt p).getD 0 [],joinL ((sumPt p).drop 1) false])else
 if 1<(skewPt p).length then([2,1],[(skewPt p).getD 0 [],joinL ((skewPt p).drop 1) true])else
 (patL (cutL p p.length).2.1,(cutL p p.length).2.2)
theorem skewPt_f {p:List Int} (hp:isPermB p=true):(∀l∈skewPt p,permB l=true)∧lenS (skewPt p)≤8∧(skewPt p).length≤8∧(∀l∈skewPt p,isPermB l=true∧l.length≤8∧∀x∈l,0≤x∧x≤8):=by
 have h:=sumPt_f (cplL_isPerm hp)
 have e:lenS (skewPt p)=lenS (sumPt (cplL p)):=by
  simp only[lenS,skewPt,List.map_map]
  congr 1
  exact List.map_congr_left fun l _=>cplL_len
 refine⟨fun l hl=> ?_,by omega,by simp[skewPt];omega,fun l hl=> ?_⟩
 ·obtain⟨q,hq,rfl⟩:=List.mem_map.1 hl
  exact cplL_perm (h.1 q hq)
 ·obtain⟨q,hq,rfl⟩:=List.mem_map.1 hl
  have:=cplL_isPerm (h.2.2.2 q hq).1
  exact⟨this,(isPerm_facts this).1,perm_b8 this⟩
theorem parts_drop {L:List (List Int)} (h1:∀l∈L,permB l=true) (h2:lenS L≤8) (h3:L.length≤8) (h4:∀l∈L,isPermB l=true∧l.length≤8∧∀x∈l,0≤x∧x≤8):
  (L.drop 1).length≤8∧(∀l∈L.drop 1,l.length≤8)∧(∀l∈L.drop 1,∀x∈l,0≤x∧x≤8):=
 ⟨by simp;omega,fun l hl=>(h4 l (List.mem_of_mem_drop hl)).2.1,fun l hl=>(h4 l (List.mem_of_mem_drop hl)).2.2⟩
def sgSt:FuncId→List Bool:=fun f=>if f=4294967297 then[false,true,false,false]else[]
theorem sgSt_eq {f:FuncId}:sgSt f=if f=4294967297 then[false,true,false,false]else[]:=_root_.id rfl
theorem way_sgSt:wayE sgSt=false∧wayN sgSt=false∧wayS sgSt=true∧wayZ sgSt=false∧wayM sgSt=false:=⟨rfl,rfl,rfl,rfl,rfl⟩
attribute [go_sem] sgSt_eq way_sgSt
set_option maxHeartbeats 1600000 in
theorem impl_split_c {m0:Bool} (p:List Int) (hp:isPermB p=true) (h0:1≤p.length):Fun Tryz.prog 129 [(.sl (.lent m0) (List.map (PV.int .i64) (p)))] [(.agg [(.sl (.lent false) (List.map (PV.int .i64) ((splL p).1))),(.sl (.lent false) (List.map (elI false) ((splL p).2)))])]:=by
 refine Fun.ofR (sg:=sgSt) (rs:=[.cell 2 48]) mo Tryz.func129 rfl rfl rfl rfl (by kernel_rfl) (by simp only[go_sem]) rfl ?_
 have cE1:= @impl_sumParts_c;have cE2:= @impl_joinParts_c;have cE3:= @impl_skewParts_c;have cE4:= @impl_isInterval_c;have cE5:= @impl_pattern_c;have cD1:=zdh [true,false,false,false,false,false,true,true,false,true] [(0,1),(0,2),(0,3),(0,4),(0,5),(0,6),(1,6),(2,6),(3,6),(0,7)]
 have cD2:=zdh [true,false,false,false,false,false,true,true,false,true] [(0,1),(0,2),(0,3),(0,4),(0,5),(0,6),(1,6),(2,6),(3,6),(0,7)];have cD3:=zdh [false,false,false,false,false,false,true,true,true,false,true] [(0,6),(1,6),(0,7),(1,7)]
 have hl:=(isPerm_facts hp).1
 have hb:=perm_b8 hp
 have q1:(spG shI p p.length).1=sumPt p:=rfl
 have q2:=sumPt_f hp
 have q3:=skewPt_f hp
 obtain⟨q4,q5,q6⟩:=parts_drop q2.1 q2.2.1 q2.2.2.1 q2.2.2.2
 obtain⟨q7,q8,q9⟩:=parts_drop q3.1 q3.2.1 q3.2.2.1 q3.2.2.2
 have hbb:∀x∈p,0≤x∧x≤1048576:=fun x hx=>by have:=hb x hx;omega
 have qa:List.take ((sumPt p).length - 1) (List.drop 1 (sumPt p))=List.drop 1 (sumPt p):=by rw[List.take_of_length_le (by simp)]
 have qb:List.take ((skewPt p).length - 1) (List.drop 1 (skewPt p))=List.drop 1 (skewPt p):=by rw[List.take_of_length_le (by simp)]
 refine dEa (And.intro @q1 (And.intro @qa @qb)) ?_
 all_goals try (refine zlf ?_;repeat' first|exact zso|refine And.intro ?_ ?_|(refine zim ?_;intro zb hc)|(refine zin ?_;intro zb)|intro j')
 all_goals try refine zbx ?_
 all_goals try (rw[splL,if_pos (by omega)];rfl)
 all_goals try (rw[splL,if_neg (by omega),if_pos (by omega)];rfl)
 all_goals try (rw[splL,if_neg (by omega),if_neg (by omega),if_pos (by omega)];rfl)
 refine v_loopB (fun ms1 S1=>∃(j:Nat),S1.e 0=.p (.sl (.lent m0) (List.map (PV.int .i64) (p)))∧PtrL (S1.e 2) S1.h S1.n (.deep false [.v (.sl .own []),.v (.sl .own [])] [])∧Dst2 (S1.e 5) S1.h S1.n (List.map (PV.int .i64) ([])) (List.map (elI false) ((cutL p j).2.2))∧OwnL (S1.e 6) S1.h S1.n (PV.int .i64) (((cutL p j).2.1).length) ((cutL p j).2.1)∧S1.e 7=.p (.int .i64 ((cutL p j).1))∧((cutL p j).1≤p.length)∧NId (asR (S1.e 5)) (asR (S1.e 2))∧NId (S1.e 6) (asR (S1.e 2))∧NId (S1.e 6) (asR (S1.e 5))∧ms1=p.length - (cutL p j).1) ((fun(j:Nat)=>p.length - (cutL p j).1) (0)) ?_ ⟨0,dIa trivial ?_⟩
 all_goals try (refine zlf ?_;repeat' first|exact zso|refine And.intro ?_ ?_|(refine zim ?_;intro zb hc)|(refine zin ?_;intro zb)|intro j')
 all_goals try refine zbx ?_
 rintro ms1 S1 ⟨j,h1_0,o1_2,o1_5,o1_6,h1_7,c1_0,u1_0,u1_1,u1_2,hm1⟩
 obtain⟨i1_5,ra1_5,rb1_5,rs1_5,h1_5,b1_5,l1_5,w01_5,w11_5,w21_5,w31_5,w41_5,w51_5,w61_5,w71_5,w81_5,w91_5⟩:=o1_5.out
 obtain⟨i1_2,h1_2,b1_2,l1_2⟩:=o1_2.out
 obtain⟨i1_6,h1_6,b1_6,l1_6⟩:=o1_6.out
 have k1_0:=(u1_0).out (asR_eq h1_5) (asR_eq h1_2)
 have k1_1:=(u1_1).out h1_6 (asR_eq h1_2)
 have k1_2:=(u1_2).out h1_6 (asR_eq h1_5)
 have ni1_2:=znds (x:=i1_2) (n:=S1.n)
 have ni1_5:=znds (x:=i1_5) (n:=S1.n)
 have ni1_6:=znds (x:=i1_6) (n:=S1.n)
 have di1_2i1_5:=zdne (x:=i1_2) (y:=i1_5)
 have di1_2i1_6:=zdne (x:=i1_2) (y:=i1_6)
 have di1_5i1_6:=zdne (x:=i1_5) (y:=i1_6)
 have fL1:=(And.intro h1_0 (And.intro h1_7 (And.intro h1_2 (And.intro b1_2 (And.intro h1_5 (And.intro b1_5 (And.intro h1_6 (And.intro b1_6 (And.intro w01_5 (And.intro w11_5 (And.intro w21_5 (And.intro w31_5 (And.intro w41_5 (And.intro w51_5 (And.intro w61_5 (And.intro w71_5 (And.intro w81_5 (And.intro w91_5 (And.intro ni1_2 (And.intro ni1_5 (And.intro ni1_6 (And.intro di1_2i1_5 (And.intro di1_2i1_6 di1_5i1_6)))))))))))))))))))))))
 have z1:=cutL_b (p:=p) (j:=j)
 have z2:¬(cutL p j).1<p.length→splL p=(patL (cutL p j).2.1,(cutL p j).2.2):=fun h=>by
  rw[splL,if_neg (by omega),if_neg (by omega),if_neg (by omega),cutL_fin (j:=j) (by omega)]
 refine dEa fL1 ?_
 all_goals try (refine zlf ?_;repeat' first|exact zso|refine And.intro ?_ ?_|(refine zim ?_;intro zb hc)|(refine zin ?_;intro zb)|intro j')
 all_goals try refine zbx ?_
 ·refine v_loopB (fun ms2 S2=>∃(i:Nat),S2.e 0=.p (.sl (.lent m0) (List.map (PV.int .i64) (p)))∧PtrL (S2.e 2) S2.h S2.n (.deep false [.v (.sl .own []),.v (.sl .own [])] [])∧Dst2 (S2.e 5) S2.h S2.n (List.map (PV.int .i64) ([])) (List.map (elI false) ((cutL p j).2.2))∧OwnL (S2.e 6) S2.h S2.n (PV.int .i64) (((cutL p j).2.1).length) ((cutL p j).2.1)∧S2.e 7=.p (.int .i64 ((cutL p j).1))∧S2.e 8=.p (.int .i64 (endK p (cutL p j).1 i))∧S2.e 9=.p (.int .i64 (i+1))∧((cutL p j).1+1≤i)∧(i≤p.length)∧((cutL p j).1<p.length)∧NId (asR (S2.e 5)) (asR (S2.e 2))∧NId (S2.e 6) (asR (S2.e 2))∧NId (S2.e 6) (asR (S2.e 5))∧S1.n≤S2.n∧ms2=p.length - i) ((fun(i:Nat)=>p.length - i) ((cutL p j).1+1)) ?_ ⟨(cutL p j).1+1,dIa fL1 ?_⟩
  all_goals try (refine zlf ?_;repeat' first|exact zso|refine And.intro ?_ ?_|(refine zim ?_;intro zb hc)|(refine zin ?_;intro zb)|intro j')
  all_goals try refine zbx ?_
  rintro ms2 S2 ⟨i,h2_0,o2_2,o2_5,o2_6,h2_7,h2_8,h2_9,c2_0,c2_1,c2_2,u2_0,u2_1,u2_2,u2_3,hm2⟩
  obtain⟨i2_5,ra2_5,rb2_5,rs2_5,h2_5,b2_5,l2_5,w02_5,w12_5,w22_5,w32_5,w42_5,w52_5,w62_5,w72_5,w82_5,w92_5⟩:=o2_5.out
  obtain⟨i2_2,h2_2,b2_2,l2_2⟩:=o2_2.out
  obtain⟨i2_6,h2_6,b2_6,l2_6⟩:=o2_6.out
  have k2_0:=(u2_0).out (asR_eq h2_5) (asR_eq h2_2)
  have k2_1:=(u2_1).out h2_6 (asR_eq h2_2)
  have k2_2:=(u2_2).out h2_6 (asR_eq h2_5)
  have ni2_2:=znds (x:=i2_2) (n:=S2.n)
  have ni2_5:=znds (x:=i2_5) (n:=S2.n)
  have ni2_6:=znds (x:=i2_6) (n:=S2.n)
  have di2_2i2_5:=zdne (x:=i2_2) (y:=i2_5)
  have di2_2i2_6:=zdne (x:=i2_2) (y:=i2_6)
  have di2_5i2_6:=zdne (x:=i2_5) (y:=i2_6)
  have fL2:=(And.intro h2_0 (And.intro h2_7 (And.intro h2_8 (And.intro h2_9 (And.intro h2_2 (And.intro b2_2 (And.intro h2_5 (And.intro b2_5 (And.intro h2_6 (And.intro b2_6 (And.intro w02_5 (And.intro w12_5 (And.intro w22_5 (And.intro w32_5 (And.intro w42_5 (And.intro w52_5 (And.intro w62_5 (And.intro w72_5 (And.intro w82_5 (And.intro w92_5 (And.intro ni2_2 (And.intro ni2_5 (And.intro ni2_6 (And.intro di2_2i2_5 (And.intro di2_2i2_6 di2_5i2_6)))))))))))))))))))))))))
  have z3:=endK_b (p:=p) (a:=(cutL p j).1) (k:=i)
  refine dEa fL2 ?_
  all_goals try (refine zlf ?_;repeat' first|exact zso|refine And.intro ?_ ?_|(refine zim ?_;intro zb hc)|(refine zin ?_;intro zb)|intro j')
  all_goals try refine zbx ?_
  ·have e2:endK p (cutL p j).1 (i+1)=i+1:=by rw[endK,if_pos ⟨by omega,by omega,by push_cast;exact hc⟩]
   focus
    refine q_lp_n ((fun(i:Nat)=>p.length - i) (i+1)) (dC fL2 ?_) ⟨i+1,dC fL2 ?_⟩
    all_goals try (refine zlf ?_;repeat' first|exact zso|refine And.intro ?_ ?_|(refine zim ?_;intro zb hc)|(refine zin ?_;intro zb)|intro j')
    all_goals try refine zbx ?_
  ·have e2:endK p (cutL p j).1 (i+1)=endK p (cutL p j).1 i:=by rw[endK,if_neg (fun h=>by have:=h.2.2;push_cast at this;rw[hc]at this;cases this)]
   focus
    refine q_lp_n ((fun(i:Nat)=>p.length - i) (i+1)) (dC fL2 ?_) ⟨i+1,dC fL2 ?_⟩
    all_goals try (refine zlf ?_;repeat' first|exact zso|refine And.intro ?_ ?_|(refine zim ?_;intro zb hc)|(refine zin ?_;intro zb)|intro j')
    all_goals try refine zbx ?_
  ·have e2:endK p (cutL p j).1 (i+1)=endK p (cutL p j).1 i:=by rw[endK,if_neg (by omega)]
   focus
    refine q_lp_n ((fun(i:Nat)=>p.length - i) (i+1)) (dC fL2 ?_) ⟨i+1,dC fL2 ?_⟩
    all_goals try (refine zlf ?_;repeat' first|exact zso|refine And.intro ?_ ?_|(refine zim ?_;intro zb hc)|(refine zin ?_;intro zb)|intro j')
    all_goals try refine zbx ?_
  ·obtain rfl:i=p.length:=by omega
   have e3:cutL p (j+1)=(endK p (cutL p j).1 p.length,(cutL p j).2.1++[p.getD (cutL p j).1 0],(cutL p j).2.2++[patL (segL p (cutL p j).1 (endK p (cutL p j).1 p.length))]):=by rw[cutL,if_pos c2_2]
   have e4:=congrArg Prod.fst e3
   have e5:=congrArg (fun x=>x.2.1) e3
   have e6:=congrArg (fun x=>x.2.2) e3
   simp only at e4 e5 e6
   focus
    refine q_lp_n ((fun(j:Nat)=>p.length - (cutL p j).1) (j+1)) (dC fL2 ?_) ⟨j+1,dC fL2 ?_⟩
    all_goals try (refine zlf ?_;repeat' first|exact zso|refine And.intro ?_ ?_|(refine zim ?_;intro zb hc)|(refine zin ?_;intro zb)|intro j')
    all_goals try refine zbx ?_
   all_goals(first|(rw[e6];rfl)|(rw[e5];done)|(rw[e5];simp;done)|(rw[e4];done)|(rw[e4];omega))
  ·rw[endK_low (by omega)];omega
 ·rw[z2 (by omega)]
 ·rw[z2 (by omega)]
 ·simp[cutL]
set_option maxHeartbeats 1000000 in
set_option maxHeartbeats 1600000 in
theorem spec_l6Split_c {m0:Bool} (p:List Int) (hp:isPermB p=true) (h0:1≤p.length):Fun Tryz.prog 120 [(.sl (.lent m0) (List.map (PV.int .i64) (p)))] [(.agg [(.sl (.lent false) (List.map (PV.int .i64) ((splL p).1))),(.sl (.lent false) (List.map (elI false) ((splL p).2)))])]:=by
 refine Fun.ofR (sg:=sgSt) (rs:=[.cell 2 48]) mo Tryz.func120 rfl rfl rfl rfl (by kernel_rfl) (by simp only[go_sem]) rfl ?_
 have cE1:= @spec_SumParts_c;have cE2:= @spec_l6Sum_c;have cE3:= @spec_SkewParts_c;have cE4:= @spec_l5Run_c;have cE5:= @spec_l2Pattern_c;have cD1:=zdh [false,false,false,false,false,false,false,true,true,true,false,true] [(0,7),(1,7),(0,8),(1,8)]
 have hl:=(isPerm_facts hp).1
 have hb:=perm_b8 hp
 have q1:(spG ptI p p.length).1=sumPt p:=sumPt_pt (isPerm_facts hp).2
 have q2:=sumPt_f hp
 have q3:=skewPt_f hp
 have hbb:∀x∈p,0≤x∧x≤1048576:=fun x hx=>by have:=hb x hx;omega
 obtain⟨f1,f2,f3,_⟩:=q2
 obtain⟨g1,g2,g3,_⟩:=q3
 refine dEa (And.intro @q1 @hp) ?_
 all_goals try (refine zlf ?_;repeat' first|exact zso|refine And.intro ?_ ?_|(refine zim ?_;intro zb hc)|(refine zin ?_;intro zb)|intro j')
 all_goals try refine zbx ?_
 all_goals try (rw[splL,if_pos (by omega)];rfl)
 all_goals try (rw[splL,if_neg (by omega),if_pos (by omega)];rfl)
 all_goals try (rw[splL,if_neg (by omega),if_neg (by omega),if_pos (by omega)];rfl)
 refine v_loopB (fun ms1 S1=>∃(j:Nat),S1.e 0=.p (.sl (.lent m0) (List.map (PV.int .i64) (p)))∧PtrL (S1.e 2) S1.h S1.n (.deep false [.v (.sl .own []),.v (.sl .own [])] [])∧Dst2 (S1.e 5) S1.h S1.n (List.map (PV.int .i64) ([])) (List.map (elI false) ((cutL p j).2.2))∧OwnL (S1.e 6) S1.h S1.n (PV.int .i64) (((cutL p j).2.1).length) ((cutL p j).2.1)∧S1.e 7=.p (.int .i64 ((cutL p j).1))∧((cutL p j).1≤p.length)∧NId (asR (S1.e 5)) (asR (S1.e 2))∧NId (S1.e 6) (asR (S1.e 2))∧NId (S1.e 6) (asR (S1.e 5))∧ms1=p.length - (cutL p j).1) ((fun(j:Nat)=>p.length - (cutL p j).1) (0)) ?_ ⟨0,dIa trivial ?_⟩
 all_goals try (refine zlf ?_;repeat' first|exact zso|refine And.intro ?_ ?_|(refine zim ?_;intro zb hc)|(refine zin ?_;intro zb)|intro j')
 all_goals try refine zbx ?_
 rintro ms1 S1 ⟨j,h1_0,o1_2,o1_5,o1_6,h1_7,c1_0,u1_0,u1_1,u1_2,hm1⟩
 obtain⟨i1_5,ra1_5,rb1_5,rs1_5,h1_5,b1_5,l1_5,w01_5,w11_5,w21_5,w31_5,w41_5,w51_5,w61_5,w71_5,w81_5,w91_5⟩:=o1_5.out
 obtain⟨i1_2,h1_2,b1_2,l1_2⟩:=o1_2.out
 obtain⟨i1_6,h1_6,b1_6,l1_6⟩:=o1_6.out
 have k1_0:=(u1_0).out (asR_eq h1_5) (asR_eq h1_2)
 have k1_1:=(u1_1).out h1_6 (asR_eq h1_2)
 have k1_2:=(u1_2).out h1_6 (asR_eq h1_5)
 have ni1_2:=znds (x:=i1_2) (n:=S1.n)
 have ni1_5:=znds (x:=i1_5) (n:=S1.n)
 have ni1_6:=znds (x:=i1_6) (n:=S1.n)
 have di1_2i1_5:=zdne (x:=i1_2) (y:=i1_5)
 have di1_2i1_6:=zdne (x:=i1_2) (y:=i1_6)
 have di1_5i1_6:=zdne (x:=i1_5) (y:=i1_6)
 have fL1:=(And.intro h1_0 (And.intro h1_7 (And.intro h1_2 (And.intro b1_2 (And.intro h1_5 (And.intro b1_5 (And.intro h1_6 (And.intro b1_6 (And.intro w01_5 (And.intro w11_5 (And.intro w21_5 (And.intro w31_5 (And.intro w41_5 (And.intro w51_5 (And.intro w61_5 (And.intro w71_5 (And.intro w81_5 (And.intro w91_5 (And.intro ni1_2 (And.intro ni1_5 (And.intro ni1_6 (And.intro di1_2i1_5 (And.intro di1_2i1_6 di1_5i1_6)))))))))))))))))))))))
 have z1:=cutL_b (p:=p) (j:=j)
 have z2:¬(cutL p j).1<p.length→splL p=(patL (cutL p j).2.1,(cutL p j).2.2):=fun h=>by
  rw[splL,if_neg (by omega),if_neg (by omega),if_neg (by omega),cutL_fin (j:=j) (by omega)]
 refine dEa fL1 ?_
 all_goals try (refine zlf ?_;repeat' first|exact zso|refine And.intro ?_ ?_|(refine zim ?_;intro zb hc)|(refine zin ?_;intro zb)|intro j')
 all_goals try refine zbx ?_
 ·refine v_loopB (fun ms2 S2=>∃(i:Nat),S2.e 0=.p (.sl (.lent m0) (List.map (PV.int .i64) (p)))∧PtrL (S2.e 2) S2.h S2.n (.deep false [.v (.sl .own []),.v (.sl .own [])] [])∧Dst2 (S2.e 5) S2.h S2.n (List.map (PV.int .i64) ([])) (List.map (elI false) ((cutL p j).2.2))∧OwnL (S2.e 6) S2.h S2.n (PV.int .i64) (((cutL p j).2.1).length) ((cutL p j).2.1)∧S2.e 7=.p (.int .i64 ((cutL p j).1))∧S2.e 8=.p (.int .i64 (i - 1))∧((cutL p j).1+1≤i)∧(i≤p.length)∧((cutL p j).1<p.length)∧(endK p (cutL p j).1 p.length=endK p (cutL p j).1 i)∧NId (asR (S2.e 5)) (asR (S2.e 2))∧NId (S2.e 6) (asR (S2.e 2))∧NId (S2.e 6) (asR (S2.e 5))∧S1.n≤S2.n∧ms2=i) ((fun(i:Nat)=>i) (p.length)) ?_ ⟨p.length,dIa fL1 ?_⟩
  all_goals try (refine zlf ?_;repeat' first|exact zso|refine And.intro ?_ ?_|(refine zim ?_;intro zb hc)|(refine zin ?_;intro zb)|intro j')
  all_goals try refine zbx ?_
  rintro ms2 S2 ⟨i,h2_0,o2_2,o2_5,o2_6,h2_7,h2_8,c2_0,c2_1,c2_2,c2_3,u2_0,u2_1,u2_2,u2_3,hm2⟩
  obtain⟨i2_5,ra2_5,rb2_5,rs2_5,h2_5,b2_5,l2_5,w02_5,w12_5,w22_5,w32_5,w42_5,w52_5,w62_5,w72_5,w82_5,w92_5⟩:=o2_5.out
  obtain⟨i2_2,h2_2,b2_2,l2_2⟩:=o2_2.out
  obtain⟨i2_6,h2_6,b2_6,l2_6⟩:=o2_6.out
  have k2_0:=(u2_0).out (asR_eq h2_5) (asR_eq h2_2)
  have k2_1:=(u2_1).out h2_6 (asR_eq h2_2)
  have k2_2:=(u2_2).out h2_6 (asR_eq h2_5)
  have ni2_2:=znds (x:=i2_2) (n:=S2.n)
  have ni2_5:=znds (x:=i2_5) (n:=S2.n)
  have ni2_6:=znds (x:=i2_6) (n:=S2.n)
  have di2_2i2_5:=zdne (x:=i2_2) (y:=i2_5)
  have di2_2i2_6:=zdne (x:=i2_2) (y:=i2_6)
  have di2_5i2_6:=zdne (x:=i2_5) (y:=i2_6)
  have fL2:=(And.intro h2_0 (And.intro h2_7 (And.intro h2_8 (And.intro h2_2 (And.intro b2_2 (And.intro h2_5 (And.intro b2_5 (And.intro h2_6 (And.intro b2_6 (And.intro w02_5 (And.intro w12_5 (And.intro w22_5 (And.intro w32_5 (And.intro w42_5 (And.intro w52_5 (And.intro w62_5 (And.intro w72_5 (And.intro w82_5 (And.intro w92_5 (And.intro ni2_2 (And.intro ni2_5 (And.intro ni2_6 (And.intro di2_2i2_5 (And.intro di2_2i2_6 di2_5i2_6))))))))))))))))))))))))
  have z3:=endK_b (p:=p) (a:=(cutL p j).1) (k:=i)
  refine dEa fL2 ?_
  all_goals try (refine zlf ?_;repeat' first|exact zso|refine And.intro ?_ ?_|(refine zim ?_;intro zb hc)|(refine zin ?_;intro zb)|intro j')
  all_goals try refine zbx ?_
  ·have e1:i≠(cutL p j).1+1:=fun e=>by
    have:=isInt_one c2_2
    rw[show(((cutL p j).1+1:Nat):Int)=(i:Int) - 1+1 by omega,hc]at this;cases this
   have e2:endK p (cutL p j).1 i=endK p (cutL p j).1 (i - 1):=by
    obtain⟨i',rfl⟩:∃i',i=i'+1:=⟨i - 1,by omega⟩
    rw[endK,if_neg fun h=> ?_];·rfl
    have:=h.2.2
    rw[show((i'+1:Nat):Int)=((i'+1:Nat):Int) - 1+1 by omega,hc]at this;cases this
   focus
    refine q_lp_n ((fun(i:Nat)=>i) (i-1)) (dC fL2 ?_) ⟨i-1,dC fL2 ?_⟩
    all_goals try (refine zlf ?_;repeat' first|exact zso|refine And.intro ?_ ?_|(refine zim ?_;intro zb hc)|(refine zin ?_;intro zb)|intro j')
    all_goals try refine zbx ?_
  ·have e2:endK p (cutL p j).1 p.length=i:=by
    rw[c2_3]
    by_cases h2:i=(cutL p j).1+1
    ·rw[endK_low (by omega)];omega
    ·obtain⟨i',rfl⟩:∃i',i=i'+1:=⟨i - 1,by omega⟩
     rw[endK,if_pos ⟨by omega,by omega,by rw[←hc];congr 1;omega⟩]
   have e3:cutL p (j+1)=(i,(cutL p j).2.1++[p.getD (cutL p j).1 0],(cutL p j).2.2++[patL (segL p (cutL p j).1 i)]):=by rw[cutL,if_pos c2_2,e2]
   have e4:=congrArg Prod.fst e3
   have e5:=congrArg (fun x=>x.2.1) e3
   have e6:=congrArg (fun x=>x.2.2) e3
   simp only at e4 e5 e6
   have e7:((i:Int) - 1+1).toNat=i:=by omega
   focus
    refine q_lp_n ((fun(j:Nat)=>p.length - (cutL p j).1) (j+1)) (dC fL2 ?_) ⟨j+1,dC fL2 ?_⟩
    all_goals try (refine zlf ?_;repeat' first|exact zso|refine And.intro ?_ ?_|(refine zim ?_;intro zb hc)|(refine zin ?_;intro zb)|intro j')
    all_goals try refine zbx ?_
   all_goals(first|(rw[e5];done)|(rw[e5];simp only[List.length_append];done)|(rw[e4];omega)|(rw[e7,e6];rfl)|(rw[e5];simp;done))
  ·have e2:endK p (cutL p j).1 i=endK p (cutL p j).1 (i - 1):=by
    obtain⟨i',rfl⟩:∃i',i=i'+1:=⟨i - 1,by omega⟩
    rw[endK,if_neg (by omega)];rfl
   focus
    refine q_lp_n ((fun(i:Nat)=>i) (i-1)) (dC fL2 ?_) ⟨i-1,dC fL2 ?_⟩
    all_goals try (refine zlf ?_;repeat' first|exact zso|refine And.intro ?_ ?_|(refine zim ?_;intro zb hc)|(refine zin ?_;intro zb)|intro j')
    all_goals try refine zbx ?_
 ·rw[z2 (by omega)]
 ·rw[z2 (by omega)]
 ·simp[cutL]
theorem endK_lt {p:List Int} {a:Nat} (h:2≤p.length):∀{k:Nat},endK p a k - a<p.length
 |0=>by rw[endK];omega
 |k+1=>by
  have:=endK_lt (a:=a) h (k:=k)
  rw[endK];split<;>omega
theorem permB_8 {p:List Int} (h:permB p=true) (h8:p.length≤8):isPermB p=true:=by
 simp only[isPermB,h,Bool.and_true,decide_eq_true_eq];exact h8
theorem cut_f {p:List Int} (hp:isPermB p=true) (h2:2≤p.length):∀{j:Nat},∀q∈(cutL p j).2.2,isPermB q=true∧q.length<p.length
 |0=>by simp[cutL]
 |j+1=>by
  have ih:=cut_f hp h2 (j:=j)
  obtain⟨h8,hq⟩:=isPerm_facts hp
  rw[cutL]
  split
  ·rename_i hc
   intro q hm
   rcases List.mem_append.1 hm with g|g
   ·exact ih q g
   ·rw[List.mem_singleton]at g;subst g
    have e1:=endK_b (p:=p) (a:=(cutL p j).1) (k:=p.length)
    have e2:=endK_lt (p:=p) (a:=(cutL p j).1) h2 (k:=p.length)
    have e3:(patL (segL p (cutL p j).1 (endK p (cutL p j).1 p.length))).length=endK p (cutL p j).1 p.length - (cutL p j).1:=by rw[patL_len,segL_len (by omega)]
    exact⟨permB_8 (patL_perm (nodup_take (permB_iff.1 hq).2)) (by omega),by omega⟩
  ·exact ih
theorem spG_ne {p:List Int}:∀{k:Nat},k≤p.length→∀l∈(spG ptI p k).1,0<l.length
 |0,_=>by simp[spG]
 |k+1,h=>by
  have ih:=spG_ne (p:=p) (k:=k) (by omega)
  have h3:=(spG_from (g:=ptI) (p:=p) (k:=k)).1
  rw[spG]
  split
  ·intro l hl
   rcases List.mem_append.1 hl with g|g
   ·exact ih l g
   ·rw[List.mem_singleton]at g;subst g
    simp only[ptI,patL_len,segL_len h];omega
  ·exact ih
theorem sum_ne {p:List Int} (hp:isPermB p=true):(∀l∈sumPt p,0<l.length)∧lenS (sumPt p)≤p.length:=by
 obtain⟨h8,hq⟩:=isPerm_facts hp
 rw[←sumPt_pt hq]
 refine⟨spG_ne (Nat.le_refl _), ?_⟩
 rw[(spG_parts hq (Nat.le_refl _)).2]
 exact(spG_from (g:=ptI) (p:=p) (k:=p.length)).1
theorem parts_lt {L:List (List Int)} {n:Nat} (h2:1<L.length) (hne:∀l∈L,0<l.length) (hs:lenS L≤n):(L.getD 0 []).length<n∧lenS (L.drop 1)<n:=by
 match L,h2 with
 |a::b::t,_=>
  have h1:=hne a (by simp)
  have h3:=hne b (by simp)
  simp only[lenS,List.map_cons,List.sum_cons]at hs
  simp only[List.getD_cons_zero,List.drop_succ_cons,List.drop_zero,lenS,List.map_cons,List.sum_cons]
  omega
theorem join_two {L:List (List Int)} {k:Bool} {n:Nat} (h2:1<L.length) (hne:∀l∈L,0<l.length) (hs:lenS L≤n) (hn:n≤8) (hp:∀l∈L,permB l=true):
  ∀q∈[L.getD 0 [],joinL (L.drop 1) k],isPermB q=true∧q.length<n:=by
 obtain⟨h3,h4⟩:=parts_lt h2 hne hs
 have h5:∀l∈L.drop 1,permB l=true:=fun l hl=>hp l (List.mem_of_mem_drop hl)
 have h6:=joinL_len (L:=L.drop 1) (k:=k) (Nat.le_refl _)
 have h7:=joinL_perm (k:=k) h5 (Nat.le_refl _)
 rw[List.take_length]at h6 h7
 intro q hq
 simp only[List.mem_cons,List.not_mem_nil,or_false]at hq
 rcases hq with rfl|rfl
 ·exact⟨permB_8 (hp _ (getD_mem (by omega))) (by omega),h3⟩
 ·exact⟨permB_8 h7 (by omega),by omega⟩
theorem spl_f {p:List Int} (hp:isPermB p=true) (h2:2≤p.length):∀q∈(splL p).2,isPermB q=true∧q.length<p.length:=by
 obtain⟨h8,hq⟩:=isPerm_facts hp
 unfold splL
 rw[if_neg (by omega)]
 split
 ·rename_i h
  obtain⟨n1,n2⟩:=sum_ne hp
  exact join_two h n1 n2 h8 (sumPt_f hp).1
 ·split
  ·rename_i _ h
   have hc:=cplL_isPerm hp
   obtain⟨n1,n2⟩:=sum_ne hc
   obtain⟨s1,s2,_,_⟩:=skewPt_f hp
   refine join_two h (fun l hl=> ?_) ?_ h8 s1
   ·obtain⟨q,hq',rfl⟩:=List.mem_map.1 hl
    rw[cplL_len];exact n1 q hq'
   ·have e:lenS (skewPt p)=lenS (sumPt (cplL p)):=by
     simp only[lenS,skewPt,List.map_map]
     congr 1
     exact List.map_congr_left fun l _=>cplL_len
    rw[e];rwa [cplL_len]at n2
  ·exact cut_f hp h2
theorem spl_n {p:List Int} (hp:isPermB p=true):(splL p).2.length≤8∧(splL p).1.length≤8:=by
 obtain⟨h8,hq⟩:=isPerm_facts hp
 unfold splL
 split
 ·simp
 ·split
  ·simp
  ·split
   ·simp
   ·have:=cutL_b (p:=p) (j:=p.length)
    refine⟨?_, ?_⟩
    ·show(cutL p p.length).2.2.length≤8;omega
    ·show(patL (cutL p p.length).2.1).length≤8;rw[patL_len];omega
def rtL:Nat→List Int→List (List Int)
 |0,_=>[]
 |d+1,p=>if p.length<2 then[]else(splL p).1::(splL p).2.flatMap (rtL d)
theorem rtL_few {d:Nat} {p:List Int} (h:p.length<2):rtL d p=[]:=by
 cases d with
 |zero=>rfl
 |succ d=>rw[rtL,if_pos h]
theorem flat_ln {L:List (List Int)} {f:List Int→List (List Int)} {n:Nat} (h:∀q∈L,(f q).length≤n):(L.flatMap f).length≤L.length*n:=by
 induction L with
 |nil=>simp
 |cons a L ih=>
  have h1:=h a (by simp)
  have h2:=ih fun q hq=>h q (List.mem_cons_of_mem _ hq)
  rw[List.flatMap_cons,List.length_append,List.length_cons,Nat.succ_mul];omega
theorem rtL_len:∀{d:Nat} {p:List Int},isPermB p=true→(rtL d p).length≤9^d
 |0,_,_=>by simp[rtL]
 |d+1,p,hp=>by
  rw[rtL]
  split
  ·simp
  ·rename_i h
   have h1:=flat_ln (L:=(splL p).2) (f:=rtL d) (n:=9^d) fun q hq=>rtL_len (spl_f hp (by omega) q hq).1
   have h2:=(spl_n hp).1
   have h3:=Nat.mul_le_mul_right (9^d) h2
   have h4:0<9^d:=Nat.pow_pos (by decide)
   rw[List.length_cons,Nat.pow_succ];omega
theorem rtL_row:∀{d:Nat} {p:List Int},isPermB p=true→∀l∈rtL d p,l.length≤8
 |0,_,_,l,h=>by cases h
 |d+1,p,hp,l,h=>by
  rw[rtL]at h
  split at h
  ·cases h
  ·rename_i h2
   rcases List.mem_cons.1 h with g|g
   ·rw[g];exact(spl_n hp).2
   ·obtain⟨q,hq,hl⟩:=List.mem_flatMap.1 g
    exact rtL_row (spl_f hp (by omega) q hq).1 l hl
def rsL:Nat→List Int→List (List Int)→List (List Int)
 |0,_,out=>out
 |d+1,p,out=>if p.length<2 then out else(splL p).2.foldl (fun o q=>rsL d q o) (putP out (splL p).1)
theorem rsL_mem:∀{d:Nat} {p x:List Int} {out:List (List Int)},x∈rsL d p out↔x∈out∨x∈rtL d p
 |0,_,_,_=>by simp[rsL,rtL]
 |d+1,p,x,out=>by
  rw[rsL,rtL]
  split
  ·simp
  ·have key:∀(L:List (List Int)) (o:List (List Int)),x∈L.foldl (fun o q=>rsL d q o) o↔x∈o∨x∈L.flatMap (rtL d):=by
    intro L
    induction L with
    |nil=>intro o;simp
    |cons a L ih=>intro o;rw[List.foldl_cons,ih,rsL_mem,List.flatMap_cons,List.mem_append];exact or_assoc
   rw[key,putP_mem,List.mem_cons]
   constructor
   ·rintro((h|h)|h)
    ·exact .inr (.inl h)
    ·exact .inl h
    ·exact .inr (.inr h)
   ·rintro(h|h|h)
    ·exact .inl (.inr h)
    ·exact .inl (.inl h)
    ·exact .inr h
theorem putP_le {L:List (List Int)} {p:List Int}:(putP L p).length≤L.length+1:=by
 unfold putP;split
 ·omega
 ·unfold insS;rw[insK_len];exact Nat.le_refl _
theorem rsL_len:∀{d:Nat} {p:List Int} {out:List (List Int)},isPermB p=true→(rsL d p out).length≤out.length+9^d
 |0,_,_,_=>by simp[rsL]
 |d+1,p,out,hp=>by
  have h5:0<9^(d+1):=Nat.pow_pos (by decide)
  rw[rsL]
  split
  ·omega
  ·rename_i h
   have key:∀(L:List (List Int)),(∀q∈L,isPermB q=true)→∀(o:List (List Int)),(L.foldl (fun o q=>rsL d q o) o).length≤o.length+L.length*9^d:=by
    intro L
    induction L with
    |nil=>intro _ o;simp
    |cons a L ih=>
     intro hL o
     have h1:=ih (fun q hq=>hL q (List.mem_cons_of_mem _ hq)) (rsL d a o)
     have h2:=rsL_len (d:=d) (out:=o) (hL a (by simp))
     rw[List.foldl_cons,List.length_cons,Nat.succ_mul];omega
   have h1:=key (splL p).2 (fun q hq=>(spl_f hp (by omega) q hq).1) (putP out (splL p).1)
   have h2:=putP_le (L:=out) (p:=(splL p).1)
   have h3:=Nat.mul_le_mul_right (9^d) (spl_n hp).1
   have h4:0<9^d:=Nat.pow_pos (by decide)
   rw[Nat.pow_succ];omega
theorem rsL_row {d:Nat} {p:List Int} {out:List (List Int)} (hp:isPermB p=true) (ho:∀l∈out,l.length≤8):∀l∈rsL d p out,l.length≤8:=fun l hl=>by
 rcases rsL_mem.1 hl with h|h
 ·exact ho l h
 ·exact rtL_row hp l h
def rsK (d:Nat) (L:List (List Int)) (o:List (List Int)):List (List Int):=L.foldl (fun o q=>rsL d q o) o
theorem rsK_snoc {d:Nat} {L o:List (List Int)} {q:List Int}:rsK d (L++[q]) o=rsL d q (rsK d L o):=by rw[rsK,List.foldl_append];rfl
theorem rsK_len {d:Nat}:∀{L o:List (List Int)},(∀q∈L,isPermB q=true)→(∀l∈o,l.length≤8)→(rsK d L o).length≤o.length+L.length*9^d∧∀l∈rsK d L o,l.length≤8
 |[],o,_,ho=>by rw[rsK,List.foldl_nil];exact⟨by omega,ho⟩
 |a::L,o,h,ho=>by
  have h0:=h a (by simp)
  have h2:=rsL_len (d:=d) (out:=o) h0
  obtain⟨h3,h4⟩:=rsK_len (d:=d) (L:=L) (o:=rsL d a o) (fun q hq=>h q (List.mem_cons_of_mem _ hq)) (rsL_row h0 ho)
  have e:rsK d (a::L) o=rsK d L (rsL d a o):=rfl
  rw[e,List.length_cons,Nat.succ_mul]
  exact⟨by omega,h4⟩
def splP (p:List Int):(List Int×List (List Int))×Bool:=if isPermB p&&decide (p.length≠0)then(splL p,true)else(([],[]),false)
theorem splP_1 {p:List Int} (h:isPermB p=true) (h0:p.length≠0):splP p=(splL p,true):=by simp[splP,h,h0]
theorem splP_0 {p:List Int} (h:isPermB p=false):splP p=(([],[]),false):=by simp[splP,h]
theorem splP_n {p:List Int} (h:p.length=0):splP p=(([],[]),false):=by simp[splP,h]
theorem spec_SplitPerm_c {m0:Bool} (p:List Int) (hl:p.length≤1048576):Fun Tryz.prog 67 [(.sl (.lent m0) (List.map (PV.int .i64) (p)))] [(.agg [(.sl (.lent false) (List.map (PV.int .i64) ((splP p).1.1))),(.sl (.lent false) (List.map (elI false) ((splP p).1.2)))]),(.bool ((splP p).2))]:=by
 refine Fun.ofR (sg:=sg0) (rs:=[.cell 2 48,.tmp 3]) mo Tryz.func67 rfl rfl rfl rfl (by kernel_rfl) (by simp only[go_sem]) rfl ?_
 have cE1:= @spec_IsPerm_c;have cE2:= @spec_l6Split_c
 refine dEa trivial ?_
 all_goals try (refine zlf ?_;repeat' first|exact zso|refine And.intro ?_ ?_|(refine zim ?_;intro zb hc;repeat (have zc:=zb.1;replace zb:=zb.2))|(refine zin ?_;intro zb)|intro j')
 all_goals try refine zbx ?_
 all_goals(first|assumption|(rw[splP_0 hc]<;>rfl)|(rw[splP_n (by omega)]<;>rfl)|(rw[splP_1 (by assumption) (by omega)]))
theorem cut_pos {p:List Int} (h8:p.length≤8):∀{j:Nat},∀q∈(cutL p j).2.2,1≤q.length
 |0=>by simp[cutL]
 |j+1=>by
  have ih:=cut_pos h8 (j:=j)
  rw[cutL]
  split
  ·rename_i hc
   intro q hm
   rcases List.mem_append.1 hm with g|g
   ·exact ih q g
   ·rw[List.mem_singleton]at g;subst g
    have e1:=endK_b (p:=p) (a:=(cutL p j).1) (k:=p.length)
    rw[patL_len,segL_len (by omega)];omega
  ·exact ih
theorem join_pos {L:List (List Int)} {k:Bool} (h2:1<L.length) (hne:∀l∈L,0<l.length):∀q∈[L.getD 0 [],joinL (L.drop 1) k],1≤q.length:=by
 match L,h2 with
 |a::b::t,_=>
  have h1:=hne a (by simp)
  have h3:=hne b (by simp)
  have h6:=joinL_len (L:=b::t) (k:=k) (Nat.le_refl _)
  rw[List.take_length]at h6
  simp only[lenS,List.map_cons,List.sum_cons]at h6
  intro q hq
  simp only[List.getD_cons_zero,List.drop_succ_cons,List.drop_zero,List.mem_cons,List.not_mem_nil,or_false]at hq
  rcases hq with rfl|rfl
  ·exact h1
  ·omega
theorem spl_pos {p:List Int} (hp:isPermB p=true) (h2:2≤p.length):∀q∈(splL p).2,1≤q.length:=by
 obtain⟨h8,hq⟩:=isPerm_facts hp
 unfold splL
 rw[if_neg (by omega)]
 split
 ·rename_i h
  exact join_pos h (sum_ne hp).1
 ·split
  ·rename_i _ h
   obtain⟨n1,n2⟩:=sum_ne (cplL_isPerm hp)
   refine join_pos h fun l hl=> ?_
   obtain⟨q,hq',rfl⟩:=List.mem_map.1 hl
   rw[cplL_len];exact n1 q hq'
  ·exact cut_pos h8
def trT:Nat→List Int→List UInt8
 |0,_=>[49]
 |d+1,p=>if p.length=1 then[49]else txtP (splL p).1++[40]++Lib.join ((splL p).2.map (trT d)) [32]++[41]
theorem trT_len:∀{d:Nat} {p:List Int},isPermB p=true→(trT d p).length≤30*9^d
 |0,p,_=>by simp[trT]
 |d+1,p,hp=>by
  have h9:9^(d+1)=9*9^d:=by rw[Nat.pow_succ,Nat.mul_comm]
  have h1:0<9^d:=Nat.pow_pos (by decide)
  rw[trT]
  by_cases h2:p.length=1
  ·rw[if_pos h2];simp;omega
  ·rw[if_neg h2]
   by_cases h0:p.length=0
   ·have e:p=[]:=List.eq_nil_of_length_eq_zero h0
    subst e
    have:(txtP (splL []).1++[40]++Lib.join ((splL []).2.map (trT d)) [32]++[41]).length≤30:=by
     have e:splL []=([],[]):=by decide
     rw[e];simp only[List.map_nil,Lib.join_nil];decide
    omega
   ·have hf:=spl_f hp (by omega)
    obtain⟨n1,n2⟩:=spl_n hp
    have hj:=join_len_le (sep:=[32]) (n:=30*9^d) (l:=(splL p).2.map (trT d)) fun x hx=>by
     obtain⟨q,hq,rfl⟩:=List.mem_map.1 hx
     exact trT_len (hf q hq).1
    rw[List.length_map]at hj
    have h7:=Nat.mul_le_mul_right (30*9^d+([32]:List UInt8).length) n1
    have ht:=txtP_len (splL p).1
    simp only[List.length_append,List.length_singleton]at hj h7 ⊢
    omega
theorem tr9:∀d,d≤8→30*9^d≤1300000000:=by decide
def trR (p:List Int):List UInt8:=if isPermB p=true∧p.length≠0 then trT 8 p else[]
theorem trR_len {p:List Int}:(trR p).length≤1300000000:=by
 unfold trR;split
 ·rename_i h;exact Nat.le_trans (trT_len h.1) (tr9 8 (by decide))
 ·simp
theorem mapT_take {d:Nat} {L:List (List Int)} {k:Nat} (h:k<L.length):(L.take (k+1)).map (trT d)=(L.take k).map (trT d)++[trT d (L.getD k [])]:=by
 rw[take_getD (d:=[]) h,List.map_append];rfl
theorem trJ {d:Nat} {p:List Int} (hd:d≤8) (hp:isPermB p=true) (h2:2≤p.length):(Lib.join ((splL p).2.map (trT d)) [32]).length≤100000000000:=by
 have hf:=spl_f hp h2
 obtain⟨n1,n2⟩:=spl_n hp
 have hj:=join_len_le (sep:=[32]) (n:=1300000000) (l:=(splL p).2.map (trT d)) fun x hx=>by
  obtain⟨q,hq,rfl⟩:=List.mem_map.1 hx
  exact Nat.le_trans (trT_len (hf q hq).1) (tr9 d hd)
 rw[List.length_map]at hj
 have h7:=Nat.mul_le_mul_right (1300000000+([32]:List UInt8).length) n1
 simp only[List.length_singleton]at hj h7;omega
set_option maxHeartbeats 4000000 in
theorem impl_treeText_c:∀(d:Nat) {m0:Bool} (p:List Int),d≤8→isPermB p=true→1≤p.length→p.length≤d→Fun Tryz.prog 85 [.sl (.lent m0) (List.map (PV.int .i64) p)] [.str (trT d p)]:=by
 intro d
 induction d with
 |zero=>intro m0 p _ _ h1 h2;omega
 |succ d ih=>
  intro m0 p hd hp h1 hl
  by_cases h2:p.length=1
  ·rw[trT,if_pos h2]
   refine fO sg0 [2] Tryz.func85 ?_
   have cE1:= @impl_split_c;have cE2:= @impl_PermText_c;have cE3:= @strings_Join_c
   refine dEa @h2 ?_
   all_goals try (refine zlf ?_;repeat' first|exact zso|refine And.intro ?_ ?_|(refine zim ?_;intro zb hc)|(refine zin ?_;intro zb)|intro j')
   all_goals try refine zbx ?_
   all_goals trace_state
  ·have hf:=spl_f hp (by omega)
   have hq:=spl_pos hp (by omega)
   obtain⟨n1,n2⟩:=spl_n hp
   have j1:=trJ (d:=d) (by omega) hp (by omega)
   have t1:=txtP_len (splL p).1
   have e2:((p.length:Int)=1)=False:=eq_false (by omega)
   rw[trT,if_neg h2]
   refine fO sg0 [2] Tryz.func85 ?_
   have cE1:= @impl_split_c;have cE2:= @impl_PermText_c;have cE3:= @strings_Join_c
   have cE1:= @ih;have cE2:= @impl_split_c;have cE3:= @impl_PermText_c;have cE4:= @strings_Join_c
   refine dEa @e2 ?_
   all_goals try (refine zlf ?_;repeat' first|exact zso|refine And.intro ?_ ?_|(refine zim ?_;intro zb hc)|(refine zin ?_;intro zb)|intro j')
   all_goals try refine zbx ?_
   refine v_loopB (fun ms1 S1=>∃(k:Nat),PtrL (S1.e 3) S1.h S1.n (.live false [.sl (.lent false) (List.map (PV.int .i64) (splL p).1),.sl (.lent false) (List.map (elI false) (splL p).2)])∧OwnL (S1.e 4) S1.h S1.n PV.str ((((splL p).2.take k).map (trT d)).length) (((splL p).2.take k).map (trT d))∧S1.e 14=.p (.sl (.lent false) (List.map (elI false) ((splL p).2)))∧S1.e 15=.p (.int .i64 ((splL p).2.length))∧S1.e 16=.p (.int .i64 (k))∧(k≤(splL p).2.length)∧NId (S1.e 4) (asR (S1.e 3))∧ms1=(splL p).2.length - k) ((fun(k:Nat)=>(splL p).2.length - k) (0)) ?_ ⟨0,dC trivial ?_⟩
   all_goals try (refine zlf ?_;repeat' first|exact zso|refine And.intro ?_ ?_|(refine zim ?_;intro zb hc)|(refine zin ?_;intro zb)|intro j')
   all_goals try refine zbx ?_
   rintro ms1 S1 ⟨k,o1_3,o1_4,h1_14,h1_15,h1_16,c1_0,u1_0,hm1⟩
   obtain⟨i1_3,h1_3,b1_3,l1_3⟩:=o1_3.out
   obtain⟨i1_4,h1_4,b1_4,l1_4⟩:=o1_4.out
   have k1_0:=(u1_0).out h1_4 (asR_eq h1_3)
   have ni1_3:=znds (x:=i1_3) (n:=S1.n)
   have ni1_4:=znds (x:=i1_4) (n:=S1.n)
   have di1_3i1_4:=zdne (x:=i1_3) (y:=i1_4)
   have fL1:=(And.intro h1_14 (And.intro h1_15 (And.intro h1_16 (And.intro h1_3 (And.intro b1_3 (And.intro h1_4 (And.intro b1_4 (And.intro ni1_3 (And.intro ni1_4 di1_3i1_4)))))))))
   ·have lk:(((splL p).2.take k).map (trT d)).length=k:=by rw[List.length_map,List.length_take];omega
    by_cases hk:k<(splL p).2.length
    ·obtain⟨q1,q2⟩:=hf _ (getD_mem (d:=[]) hk)
     have q3:=hq _ (getD_mem (d:=[]) hk)
     have e3:=mapT_take (d:=d) hk
     have cE1:= @ih;have cE2:= @impl_split_c;have cE3:= @impl_PermText_c;have cE4:= @strings_Join_c
     refine dEa fL1 ?_
     all_goals try (refine zlf ?_;repeat' first|exact zso|refine And.intro ?_ ?_|(refine zim ?_;intro zb hc)|(refine zin ?_;intro zb)|intro j')
     all_goals try refine zbx ?_
     focus
      refine q_lp_n ((fun(k:Nat)=>(splL p).2.length - k) (k+1)) (dC fL1 ?_) ⟨k+1,dC fL1 ?_⟩
      all_goals try (refine zlf ?_;repeat' first|exact zso|refine And.intro ?_ ?_|(refine zim ?_;intro zb hc)|(refine zin ?_;intro zb)|intro j')
      all_goals try refine zbx ?_
     all_goals(first|(rw[e3];done)|(rw[e3,List.length_append];rfl)|skip)
     all_goals trace_state
    ·have e4:(splL p).2.take k=(splL p).2:=List.take_of_length_le (by omega)
     have cE1:= @ih;have cE2:= @impl_split_c;have cE3:= @impl_PermText_c;have cE4:= @strings_Join_c
     refine dEa (And.intro fL1 @e4) ?_
     all_goals try (refine zlf ?_;repeat' first|exact zso|refine And.intro ?_ ?_|(refine zim ?_;intro zb hc)|(refine zin ?_;intro zb)|intro j')
     all_goals try refine zbx ?_
     all_goals(first|(simp only[List.append_assoc];done)|skip)
     all_goals trace_state
   all_goals trace_state
theorem impl_TreeText_c {m0:Bool} (p:List Int) (hl:p.length≤1048576):Fun Tryz.prog 39 [(.sl (.lent m0) (List.map (PV.int .i64) (p)))] [(.str (trR p))]:=by
 by_cases h:isPermB p=true
 ·have h8:=(isPerm_facts h).1
  by_cases h0:p.length=0
  ·have e:trR p=[]:=by rw[trR,if_neg (fun g=>g.2 h0)]
   rw[e]
   refine fO sg0 [2] Tryz.func39 ?_
   have cE1:= @impl_IsPerm_c
   refine dEa (And.intro @h @h0) ?_
   all_goals try (refine zlf ?_;repeat' first|exact zso|refine And.intro ?_ ?_|(refine zim ?_;intro zb hc)|(refine zin ?_;intro zb)|intro j')
   all_goals try refine zbx ?_
   all_goals trace_state
  ·have e:trR p=trT 8 p:=by rw[trR,if_pos ⟨h,h0⟩]
   have e0:((p.length:Int)=0)=False:=eq_false (by omega)
   have c1:=fun m0:Bool=>impl_treeText_c 8 (m0:=m0) p (by decide) h (by omega) h8
   rw[e]
   refine fO sg0 [2] Tryz.func39 ?_
   have cE1:= @impl_IsPerm_c
   have cE1:= @c1;have cE2:= @impl_IsPerm_c
   refine dEa (And.intro @h @e0) ?_
   all_goals try (refine zlf ?_;repeat' first|exact zso|refine And.intro ?_ ?_|(refine zim ?_;intro zb hc)|(refine zin ?_;intro zb)|intro j')
   all_goals try refine zbx ?_
   all_goals trace_state
 ·have e:trR p=[]:=by rw[trR,if_neg (fun g=>h g.1)]
  rw[e]
  rw[Bool.not_eq_true]at h
  refine fO sg0 [2] Tryz.func39 ?_
  have cE1:= @impl_IsPerm_c
  refine dEa @h ?_
  all_goals try (refine zlf ?_;repeat' first|exact zso|refine And.intro ?_ ?_|(refine zim ?_;intro zb hc)|(refine zin ?_;intro zb)|intro j')
  all_goals try refine zbx ?_
  all_goals trace_state
set_option maxHeartbeats 4000000 in
theorem spec_TreeText_t_c:∀(d:Nat) {m0:Bool} (p:List Int),d≤8→isPermB p=true→1≤p.length→p.length≤d→Fun Tryz.prog 25 [.sl (.lent m0) (List.map (PV.int .i64) p)] [.str (trT d p)]:=by
 intro d
 induction d with
 |zero=>intro m0 p _ _ h1 h2;omega
 |succ d ih=>
  intro m0 p hd hp h1 hl
  have e5:=splP_1 hp (show p.length≠0 by omega)
  by_cases h2:p.length=1
  ·rw[trT,if_pos h2]
   refine fO sg0 [2] Tryz.func25 ?_
   have cE1:= @spec_SplitPerm_c;have cE2:= @spec_PermText_c;have cE3:= @spec_Join_c
   refine dEa (And.intro @h2 @e5) ?_
   all_goals try (refine zlf ?_;repeat' first|exact zso|refine And.intro ?_ ?_|(refine zim ?_;intro zb hc)|(refine zin ?_;intro zb)|intro j')
   all_goals try refine zbx ?_
   all_goals trace_state
  ·have hf:=spl_f hp (by omega)
   have hq:=spl_pos hp (by omega)
   obtain⟨n1,n2⟩:=spl_n hp
   have j1:=trJ (d:=d) (by omega) hp (by omega)
   have t1:=txtP_len (splL p).1
   have e2:((p.length:Int)=1)=False:=eq_false (by omega)
   rw[trT,if_neg h2]
   refine fO sg0 [2] Tryz.func25 ?_
   have cE1:= @spec_SplitPerm_c;have cE2:= @spec_PermText_c;have cE3:= @spec_Join_c
   have cE1:= @ih;have cE2:= @spec_SplitPerm_c;have cE3:= @spec_PermText_c;have cE4:= @spec_Join_c
   refine dEa (And.intro @e2 @e5) ?_
   all_goals try (refine zlf ?_;repeat' first|exact zso|refine And.intro ?_ ?_|(refine zim ?_;intro zb hc)|(refine zin ?_;intro zb)|intro j')
   all_goals try refine zbx ?_
   refine v_loopB (fun ms1 S1=>∃(k:Nat),PtrL (S1.e 3) S1.h S1.n (.live false [.sl (.lent false) (List.map (PV.int .i64) (splL p).1),.sl (.lent false) (List.map (elI false) (splL p).2)])∧OwnL (S1.e 5) S1.h S1.n PV.str ((((splL p).2.take k).map (trT d)).length) (((splL p).2.take k).map (trT d))∧S1.e 6=.p (.int .i64 (k))∧(k≤(splL p).2.length)∧NId (S1.e 5) (asR (S1.e 3))∧ms1=(splL p).2.length - k) ((fun(k:Nat)=>(splL p).2.length - k) (0)) ?_ ⟨0,dC trivial ?_⟩
   all_goals try (refine zlf ?_;repeat' first|exact zso|refine And.intro ?_ ?_|(refine zim ?_;intro zb hc)|(refine zin ?_;intro zb)|intro j')
   all_goals try refine zbx ?_
   rintro ms1 S1 ⟨k,o1_3,o1_5,h1_6,c1_0,u1_0,hm1⟩
   obtain⟨i1_3,h1_3,b1_3,l1_3⟩:=o1_3.out
   obtain⟨i1_5,h1_5,b1_5,l1_5⟩:=o1_5.out
   have k1_0:=(u1_0).out h1_5 (asR_eq h1_3)
   have ni1_3:=znds (x:=i1_3) (n:=S1.n)
   have ni1_5:=znds (x:=i1_5) (n:=S1.n)
   have di1_3i1_5:=zdne (x:=i1_3) (y:=i1_5)
   have fL1:=(And.intro h1_6 (And.intro h1_3 (And.intro b1_3 (And.intro h1_5 (And.intro b1_5 (And.intro ni1_3 (And.intro ni1_5 di1_3i1_5)))))))
   ·have lk:(((splL p).2.take k).map (trT d)).length=k:=by rw[List.length_map,List.length_take];omega
    by_cases hk:k<(splL p).2.length
    ·obtain⟨q1,q2⟩:=hf _ (getD_mem (d:=[]) hk)
     have q3:=hq _ (getD_mem (d:=[]) hk)
     have e3:=mapT_take (d:=d) hk
     have cE1:= @ih;have cE2:= @spec_SplitPerm_c;have cE3:= @spec_PermText_c;have cE4:= @spec_Join_c
     refine dEa fL1 ?_
     all_goals try (refine zlf ?_;repeat' first|exact zso|refine And.intro ?_ ?_|(refine zim ?_;intro zb hc)|(refine zin ?_;intro zb)|intro j')
     all_goals try refine zbx ?_
     focus
      refine q_lp_n ((fun(k:Nat)=>(splL p).2.length - k) (k+1)) (dC fL1 ?_) ⟨k+1,dC fL1 ?_⟩
      all_goals try (refine zlf ?_;repeat' first|exact zso|refine And.intro ?_ ?_|(refine zim ?_;intro zb hc)|(refine zin ?_;intro zb)|intro j')
      all_goals try refine zbx ?_
     all_goals(first|(rw[e3];done)|(rw[e3,List.length_append];rfl)|skip)
     all_goals trace_state
    ·have e4:(splL p).2.take k=(splL p).2:=List.take_of_length_le (by omega)
     have cE1:= @ih;have cE2:= @spec_SplitPerm_c;have cE3:= @spec_PermText_c;have cE4:= @spec_Join_c
     refine dEa (And.intro fL1 @e4) ?_
     all_goals try (refine zlf ?_;repeat' first|exact zso|refine And.intro ?_ ?_|(refine zim ?_;intro zb hc)|(refine zin ?_;intro zb)|intro j')
     all_goals try refine zbx ?_
     all_goals(first|(simp only[List.append_assoc];done)|skip)
     all_goals trace_state
   all_goals trace_state
theorem spec_TreeText_c {m0:Bool} (p:List Int) (hl:p.length≤1048576):Fun Tryz.prog 25 [(.sl (.lent m0) (List.map (PV.int .i64) (p)))] [(.str (trR p))]:=by
 by_cases h:isPermB p=true
 ·have h8:=(isPerm_facts h).1
  by_cases h0:p.length=0
  ·have e:trR p=[]:=by rw[trR,if_neg (fun g=>g.2 h0)]
   have e5:=splP_n h0
   rw[e]
   refine fO sg0 [2] Tryz.func25 ?_
   have cE1:= @spec_SplitPerm_c;have cE2:= @spec_PermText_c;have cE3:= @spec_Join_c
   refine dEa @e5 ?_
   all_goals try (refine zlf ?_;repeat' first|exact zso|refine And.intro ?_ ?_|(refine zim ?_;intro zb hc)|(refine zin ?_;intro zb)|intro j')
   all_goals try refine zbx ?_
   all_goals trace_state
  ·have e:trR p=trT 8 p:=by rw[trR,if_pos ⟨h,h0⟩]
   rw[e]
   exact spec_TreeText_t_c 8 (m0:=m0) p (by decide) h (by omega) h8
 ·have e:trR p=[]:=by rw[trR,if_neg (fun g=>h g.1)]
  rw[e]
  rw[Bool.not_eq_true]at h
  have e5:=splP_0 h
  refine fO sg0 [2] Tryz.func25 ?_
  have cE1:= @spec_SplitPerm_c;have cE2:= @spec_PermText_c;have cE3:= @spec_Join_c
  refine dEa @e5 ?_
  all_goals try (refine zlf ?_;repeat' first|exact zso|refine And.intro ?_ ?_|(refine zim ?_;intro zb hc)|(refine zin ?_;intro zb)|intro j')
  all_goals try refine zbx ?_
  all_goals trace_state
def dgL (s:List UInt8):List Int:=s.map fun c=>(c.toNat:Int) - 48
def prsB (s:List UInt8):Bool:=decide (s=[45])||(!decide (s=[])&&isPermB (dgL s))
def prsL (s:List UInt8):List Int:=if s=[45]then[]else if prsB s=true then dgL s else[]
theorem dgL_take {s:List UInt8} {k:Nat} (h:k<s.length):dgL (s.take (k+1))=dgL (s.take k)++[((s.getD k 0).toNat:Int) - 48]:=by
 rw[take_getD (d:=0) h,dgL,List.map_append];rfl
theorem dgL_len {s:List UInt8}:(dgL s).length=s.length:=by simp[dgL]
theorem spec_ParsePerm_c (s:List UInt8) (hl:s.length≤1048576):Fun Tryz.prog 148 [(.str (s))] [(.sl .own (List.map (PV.int .i64) (prsL s))),(.bool (prsB s))]:=by
 refine fO sg0 [2,3] Tryz.func148 ?_
 have cE1:= @spec_IsPerm_c
 refine dEa trivial ?_
 all_goals try (refine zlf ?_;repeat' first|exact zso|refine And.intro ?_ ?_|(refine zim ?_;intro zb hc;repeat (have zc:=zb.1;replace zb:=zb.2))|(refine zin ?_;intro zb)|intro j')
 all_goals try refine zbx ?_
 ·subst hc;rfl
 ·subst hc;rfl
 ·have hn:=hc
  refine v_loopB (fun ms1 S1=>∃(k:Nat),S1.e 0=.p (.str (s))∧OwnL (S1.e 4) S1.h S1.n (PV.int .i64) ((dgL (s.take k)).length) (dgL (s.take k))∧S1.e 5=.p (.int .i64 (k))∧(k≤s.length)∧ms1=s.length - k) ((fun(k:Nat)=>s.length - k) (0)) ?_ ⟨0,dC trivial ?_⟩
  all_goals try (refine zlf ?_;repeat' first|exact zso|refine And.intro ?_ ?_|(refine zim ?_;intro zb hc;repeat (have zc:=zb.1;replace zb:=zb.2))|(refine zin ?_;intro zb)|intro j')
  all_goals try refine zbx ?_
  rintro ms1 S1 ⟨k,h1_0,o1_4,h1_5,c1_0,hm1⟩
  obtain⟨i1_4,h1_4,b1_4,l1_4⟩:=o1_4.out
  have ni1_4:=znds (x:=i1_4) (n:=S1.n)
  have fL1:=(And.intro h1_0 (And.intro h1_5 (And.intro h1_4 (And.intro b1_4 ni1_4))))
  have b1:=dgL_len (s:=s.take k)
  rw[List.length_take]at b1
  have b2:=dgL_len (s:=s)
  have b3:(s.getD k 0).toNat<256:=(s.getD k 0).toNat_lt
  have b4:=dgL_take (s:=s) (k:=k)
  by_cases hk:k<s.length
  ·have u5:(Tryz.prog.underlying 5).isSome=true:=by kernel_rfl
   refine dE (And.intro fL1 @u5) ?_
   all_goals try (refine zlf ?_;repeat' first|exact zso|refine And.intro ?_ ?_|(refine zim ?_;intro zb hc;repeat (have zc:=zb.1;replace zb:=zb.2))|(refine zin ?_;intro zb)|intro j')
   all_goals try refine zbx ?_
   all_goals try (rw[n_i64];omega)
   all_goals try exact zaut
   focus
    refine q_lp_n ((fun(k:Nat)=>s.length - k) (k+1)) (dC fL1 ?_) ⟨k+1,dC fL1 ?_⟩
    all_goals try (refine zlf ?_;repeat' first|exact zso|refine And.intro ?_ ?_|(refine zim ?_;intro zb hc;repeat (have zc:=zb.1;replace zb:=zb.2))|(refine zin ?_;intro zb)|intro j')
    all_goals try refine zbx ?_
   all_goals first|(rw[b4 hk];done)|(rw[b4 hk];simp;done)
  ·rw[List.take_of_length_le (by omega)]at*
   refine dEa fL1 ?_
   all_goals try (refine zlf ?_;repeat' first|exact zso|refine And.intro ?_ ?_|(refine zim ?_;intro zb hc;repeat (have zc:=zb.1;replace zb:=zb.2))|(refine zin ?_;intro zb)|intro j')
   all_goals try refine zbx ?_
   all_goals(simp_all [prsL,prsB];done)
theorem impl_ParsePerm_c (s:List UInt8) (hl:s.length≤1048576):Fun Tryz.prog 177 [(.str (s))] [(.sl .own (List.map (PV.int .i64) (prsL s))),(.bool (prsB s))]:=by
 refine fO sg0 [2,3] Tryz.func177 ?_
 have cE1:= @impl_IsPerm_c
 refine dEa trivial ?_
 all_goals try (refine zlf ?_;repeat' first|exact zso|refine And.intro ?_ ?_|(refine zim ?_;intro zb hc;repeat (have zc:=zb.1;replace zb:=zb.2))|(refine zin ?_;intro zb)|intro j')
 all_goals try refine zbx ?_
 ·subst hc;rfl
 ·subst hc;rfl
 ·have hn:=hc
  refine v_loopB (fun ms1 S1=>∃(k:Nat),S1.e 0=.p (.str (s))∧OwnL (S1.e 4) S1.h S1.n (PV.int .i64) ((dgL (s.take k)).length) (dgL (s.take k))∧S1.e 11=.p (.int .i64 (s.length))∧S1.e 12=.p (.int .i64 (k))∧(k≤s.length)∧ms1=s.length - k) ((fun(k:Nat)=>s.length - k) (0)) ?_ ⟨0,dC trivial ?_⟩
  all_goals try (refine zlf ?_;repeat' first|exact zso|refine And.intro ?_ ?_|(refine zim ?_;intro zb hc;repeat (have zc:=zb.1;replace zb:=zb.2))|(refine zin ?_;intro zb)|intro j')
  all_goals try refine zbx ?_
  rintro ms1 S1 ⟨k,h1_0,o1_4,h1_11,h1_12,c1_0,hm1⟩
  obtain⟨i1_4,h1_4,b1_4,l1_4⟩:=o1_4.out
  have ni1_4:=znds (x:=i1_4) (n:=S1.n)
  have fL1:=(And.intro h1_0 (And.intro h1_11 (And.intro h1_12 (And.intro h1_4 (And.intro b1_4 ni1_4)))))
  have b1:=dgL_len (s:=s.take k)
  rw[List.length_take]at b1
  have b2:=dgL_len (s:=s)
  have b3:(s.getD k 0).toNat<256:=(s.getD k 0).toNat_lt
  have b4:=dgL_take (s:=s) (k:=k)
  by_cases hk:k<s.length
  ·have u5:(Tryz.prog.underlying 5).isSome=true:=by kernel_rfl
   refine dE (And.intro fL1 @u5) ?_
   all_goals try (refine zlf ?_;repeat' first|exact zso|refine And.intro ?_ ?_|(refine zim ?_;intro zb hc;repeat (have zc:=zb.1;replace zb:=zb.2))|(refine zin ?_;intro zb)|intro j')
   all_goals try refine zbx ?_
   all_goals try (rw[n_i64];omega)
   all_goals try exact zaut
   focus
    refine q_lp_n ((fun(k:Nat)=>s.length - k) (k+1)) (dC fL1 ?_) ⟨k+1,dC fL1 ?_⟩
    all_goals try (refine zlf ?_;repeat' first|exact zso|refine And.intro ?_ ?_|(refine zim ?_;intro zb hc;repeat (have zc:=zb.1;replace zb:=zb.2))|(refine zin ?_;intro zb)|intro j')
    all_goals try refine zbx ?_
   all_goals first|(rw[b4 hk];done)|(rw[b4 hk];simp;done)
  ·rw[List.take_of_length_le (by omega)]at*
   refine dEa fL1 ?_
   all_goals try (refine zlf ?_;repeat' first|exact zso|refine And.intro ?_ ?_|(refine zim ?_;intro zb hc;repeat (have zc:=zb.1;replace zb:=zb.2))|(refine zin ?_;intro zb)|intro j')
   all_goals try refine zbx ?_
   all_goals(simp_all [prsL,prsB];done)
def spB (c:UInt8):List UInt8→List UInt8→List (List UInt8)
 |[],cur=>[cur]
 |x::s,cur=>if x=c then cur::spB c s []else spB c s (cur++[x])
def splitC (c:UInt8) (s:List UInt8):List (List UInt8):=spB c s []
theorem spB_len {c:UInt8}:∀{s cur:List UInt8},(spB c s cur).length≤s.length+1
 |[],_=>by simp[spB]
 |x::s,cur=>by
  rw[spB];split
  ·have:=spB_len (c:=c) (s:=s) (cur:=[]);simp;omega
  ·have:=spB_len (c:=c) (s:=s) (cur:=cur++[x]);simp;omega
theorem take_dropB {s:List UInt8} {f k:Nat} (h:k<s.length) (hf:f≤k):(s.take (k+1)).drop f=(s.take k).drop f++[s.getD k 0]:=by
 rw[take_getD (d:=0) h,List.drop_append_of_le_length (by simp;omega)]
theorem spec_SplitByte_c (s:List UInt8) (c:UInt8) (hl:s.length≤1048576):Fun Tryz.prog 189 [(.str (s)),(.int .u8 ((c.toNat:Int)))] [(.sl .own (List.map PV.str (splitC c s)))]:=by
 refine fO sg0 [4] Tryz.func189 ?_
 refine dEa trivial ?_
 all_goals try (refine zlf ?_;repeat' first|exact zso|refine And.intro ?_ ?_|(refine zim ?_;intro zb hc)|(refine zin ?_;intro zb)|intro j')
 all_goals try refine zbx ?_
 refine v_loopB (fun ms1 S1=>∃(k:Nat) (f:Nat) (out:List (List UInt8)),S1.e 0=.p (.str (s))∧S1.e 1=.p (.int .u8 ((c.toNat:Int)))∧OwnL (S1.e 5) S1.h S1.n PV.str ((out).length) (out)∧S1.e 6=.p (.int .i64 (f))∧S1.e 7=.p (.int .i64 (k))∧(k≤s.length+1)∧(f≤k)∧(out.length≤k)∧(k≤s.length→out++spB c (s.drop k) ((s.take k).drop f)=splitC c s)∧(k=s.length+1→out=splitC c s)∧ms1=s.length+1 - k) ((fun(k:Nat) (f:Nat) (out:List (List UInt8))=>s.length+1 - k) (0) (0) ([])) ?_ ⟨0,0,[],dIa trivial ?_⟩
 all_goals try (refine zlf ?_;repeat' first|exact zso|refine And.intro ?_ ?_|(refine zim ?_;intro zb hc)|(refine zin ?_;intro zb)|intro j')
 all_goals try refine zbx ?_
 rintro ms1 S1 ⟨k,f,out,h1_0,h1_1,o1_5,h1_6,h1_7,c1_0,c1_1,c1_2,c1_3,c1_4,hm1⟩
 obtain⟨i1_5,h1_5,b1_5,l1_5⟩:=o1_5.out
 have ni1_5:=znds (x:=i1_5) (n:=S1.n)
 have fL1:=(And.intro h1_0 (And.intro h1_1 (And.intro h1_6 (And.intro h1_7 (And.intro h1_5 (And.intro b1_5 ni1_5))))))
 have d1:=fun h=>drop_at (s:=s) (k:=k) h
 have d2:f≤k→k<s.length→(s.take (k+1)).drop f=(s.take k).drop f++[s.getD k 0]:=fun a b=>take_dropB b a
 refine dEa fL1 ?_
 all_goals try (refine zlf ?_;repeat' first|exact zso|refine And.intro ?_ ?_|(refine zim ?_;intro zb hc)|(refine zin ?_;intro zb)|intro j')
 all_goals try refine zbx ?_
 ·have e:s.getD k 0=c:=UInt8.toNat_inj.1 (by omega)
  focus
   refine q_lp_n ((fun(k:Nat) (f:Nat) (out:List (List UInt8))=>s.length+1 - k) (k+1) (k+1) (out++[(s.take k).drop f])) (dC fL1 ?_) ⟨k+1,k+1,out++[(s.take k).drop f],dC fL1 ?_⟩
   all_goals try (refine zlf ?_;repeat' first|exact zso|refine And.intro ?_ ?_|(refine zim ?_;intro zb hc)|(refine zin ?_;intro zb)|intro j')
   all_goals try refine zbx ?_
  ·intro _
   have:=c1_3 (by omega)
   rw[d1 (by omega),spB,if_pos e]at this
   rw[←this,show(s.take (k+1)).drop (k+1)=[]from List.drop_of_length_le (by simp;omega)]
 ·have e:¬s.getD k 0=c:=fun e=>hc (by rw[e])
  focus
   refine q_lp_n ((fun(k:Nat) (f:Nat) (out:List (List UInt8))=>s.length+1 - k) (k+1) (f) (out)) (dC fL1 ?_) ⟨k+1,f,out,dC fL1 ?_⟩
   all_goals try (refine zlf ?_;repeat' first|exact zso|refine And.intro ?_ ?_|(refine zim ?_;intro zb hc)|(refine zin ?_;intro zb)|intro j')
   all_goals try refine zbx ?_
  ·intro _
   have:=c1_3 (by omega)
   rw[d1 (by omega),spB,if_neg e]at this
   rw[d2 (by omega) (by omega)];exact this
 ·focus
   refine q_lp_n ((fun(k:Nat) (f:Nat) (out:List (List UInt8))=>s.length+1 - k) (k+1) (k+1) (out++[(s.take k).drop f])) (dC fL1 ?_) ⟨k+1,k+1,out++[(s.take k).drop f],dC fL1 ?_⟩
   all_goals try (refine zlf ?_;repeat' first|exact zso|refine And.intro ?_ ?_|(refine zim ?_;intro zb hc)|(refine zin ?_;intro zb)|intro j')
   all_goals try refine zbx ?_
  ·intro _
   have:=c1_3 (by omega)
   rw[List.drop_of_length_le (by omega),spB]at this
   exact this
 ·exact c1_4 (by omega)
 ·rfl
def pbOk (s:List UInt8):Bool:=decide (s=[])||((splitC 32 s).all prsB&&basisB ((splitC 32 s).map prsL))
def pbL (s:List UInt8):List (List Int):=if s=[]then[]else if pbOk s=true then(splitC 32 s).map prsL else[]
theorem spB_mem {c:UInt8}:∀{s cur:List UInt8},∀x∈spB c s cur,x.length≤s.length+cur.length
 |[],cur,x,h=>by simp[spB]at h;subst h;simp
 |b::l,cur,x,h=>by
  rw[spB]at h
  split at h
  ·rcases List.mem_cons.1 h with rfl|h
   ·simp
   ·have:=spB_mem x h;simp at this ⊢;omega
  ·have:=spB_mem x h;simp at this ⊢;omega
theorem prsL_len {s:List UInt8}:(prsL s).length≤s.length:=by
 unfold prsL;split
 ·simp
 ·split
  ·simp[dgL]
  ·simp
theorem all_atB {α:Type} {l:List α} {p:α→Bool} {k:Nat} {d:α} (h:k<l.length) (hf:p (l.getD k d)=false):l.all p=false:=by
 rw[List.all_eq_false];exact⟨l.getD k d,getD_mem h,by rw[hf];decide⟩
theorem pb_no {s:List UInt8} {k:Nat} (hn:¬s=[]) (hk:k<(splitC 32 s).length) (h:prsB ((splitC 32 s).getD k [])=false):pbOk s=false:=by
 rw[pbOk,decide_eq_false hn,all_atB hk h];rfl
theorem pb_end {s:List UInt8} (hn:¬s=[]) (h:(splitC 32 s).all prsB=true):pbOk s=basisB ((splitC 32 s).map prsL):=by
 rw[pbOk,decide_eq_false hn,h];simp
theorem pbL_no {s:List UInt8} (h:pbOk s=false):pbL s=[]:=by
 rw[pbL];split
 ·rfl
 ·rw[if_neg (by rw[h];decide)]
theorem pbL_yes {s:List UInt8} (hn:¬s=[]) (h:pbOk s=true):pbL s=(splitC 32 s).map prsL:=by rw[pbL,if_neg hn,if_pos h]
theorem pb_row {s:List UInt8} (b9:∀x∈splitC 32 s,x.length≤1000) {k:Nat}:∀l∈((splitC 32 s).take k).map prsL,l.length≤1048576:=fun l hl=>by
 obtain⟨x,hx,rfl⟩:=List.mem_map.1 hl
 have:=b9 x (List.mem_of_mem_take hx)
 have:=prsL_len (s:=x);omega
def sgPB:FuncId→List Bool:=fun f=>if f=4294967297 then[true,false,false,false]else[]
theorem sgPB_eq {f:FuncId}:sgPB f=if f=4294967297 then[true,false,false,false]else[]:=_root_.id rfl
theorem way_sgPB:wayE sgPB=false∧wayN sgPB=true∧wayS sgPB=false∧wayZ sgPB=false∧wayM sgPB=false:=⟨rfl,rfl,rfl,rfl,rfl⟩
attribute [go_sem] sgPB_eq way_sgPB
theorem spec_ParseBasis_c (s:List UInt8) (hl:s.length≤1000):Fun Tryz.prog 165 [(.str (s))] [(.dl (List.map (List.map (PV.int .i64)) (pbL s))),(.bool (pbOk s))]:=by
 refine fO sgPB [2,3] Tryz.func165 ?_
 have cE1:= @spec_SplitByte_c;have cE2:= @spec_ParsePerm_c;have cE3:= @spec_IsBasis_c
 have b0:=spB_len (c:=32) (s:=s) (cur:=[])
 have b9:∀x∈splitC 32 s,x.length≤1000:=fun x hx=>by have:=spB_mem x hx;simp at this;omega
 have b8:(splitC 32 s).length≤1001:=by unfold splitC;omega
 have hS:=spec_SplitByte_c s 32 (by omega)
 rw[show(((32:UInt8).toNat:Nat):Int)=32 from rfl]at hS
 have cE1:= @hS;have cE2:= @spec_SplitByte_c;have cE3:= @spec_ParsePerm_c;have cE4:= @spec_IsBasis_c
 refine dEa trivial ?_
 all_goals try (refine zlf ?_;repeat' first|exact zso|refine And.intro ?_ ?_|(refine zim ?_;intro zb hc)|(refine zin ?_;intro zb)|intro j')
 all_goals try refine zbx ?_
 ·subst hc;rfl
 ·subst hc;rfl
 ·have hn:=hc
  refine v_loopB (fun ms1 S1=>∃(k:Nat),S1.e 0=.p (.str (s))∧DwnL (S1.e 4) S1.h S1.n (PV.int .i64) ((((splitC 32 s).take k).map prsL).length) (((splitC 32 s).take k).map prsL)∧OwnL (S1.e 5) S1.h S1.n PV.str ((splitC 32 s).length) (splitC 32 s)∧S1.e 6=.p (.int .i64 (k))∧(k≤(splitC 32 s).length)∧(((splitC 32 s).take k).all prsB=true)∧NId (S1.e 5) (S1.e 4)∧ms1=(splitC 32 s).length - k) ((fun(k:Nat)=>(splitC 32 s).length - k) (0)) ?_ ⟨0,dC trivial ?_⟩
  all_goals try (refine zlf ?_;repeat' first|exact zso|refine And.intro ?_ ?_|(refine zim ?_;intro zb hc)|(refine zin ?_;intro zb)|intro j')
  all_goals try refine zbx ?_
  rintro ms1 S1 ⟨k,h1_0,o1_4,o1_5,h1_6,c1_0,c1_1,u1_0,hm1⟩
  obtain⟨i1_4,h1_4,b1_4,l1_4⟩:=o1_4.out
  obtain⟨i1_5,h1_5,b1_5,l1_5⟩:=o1_5.out
  have k1_0:=(u1_0).out h1_5 h1_4
  have ni1_4:=znds (x:=i1_4) (n:=S1.n)
  have ni1_5:=znds (x:=i1_5) (n:=S1.n)
  have di1_4i1_5:=zdne (x:=i1_4) (y:=i1_5)
  have fL1:=(And.intro h1_0 (And.intro h1_6 (And.intro h1_4 (And.intro b1_4 (And.intro h1_5 (And.intro b1_5 (And.intro ni1_4 (And.intro ni1_5 di1_4i1_5))))))))
  have b7:k<(splitC 32 s).length→((splitC 32 s).getD k []).length≤1048576:=fun h=>by have:=b9 ((splitC 32 s).getD k []) (getD_mem h);omega
  have r1:=pb_row b9 (k:=k)
  by_cases hk:k<(splitC 32 s).length
  ·have cE1:= @spec_SplitByte_c;have cE2:= @spec_ParsePerm_c;have cE3:= @spec_IsBasis_c;have cE4:=trivial
   refine dEa fL1 ?_
   all_goals try (refine zlf ?_;repeat' first|exact zso|refine And.intro ?_ ?_|(refine zim ?_;intro zb hc)|(refine zin ?_;intro zb)|intro j')
   all_goals try refine zbx ?_
   ·rw[pbL_no (pb_no hn hk hc)];rfl
   ·exact(pb_no hn hk hc).symm
   ·focus
     refine q_lp_n ((fun(k:Nat)=>(splitC 32 s).length - k) (k+1)) (dC fL1 ?_) ⟨k+1,dC fL1 ?_⟩
     all_goals try (refine zlf ?_;repeat' first|exact zso|refine And.intro ?_ ?_|(refine zim ?_;intro zb hc)|(refine zin ?_;intro zb)|intro j')
     all_goals try refine zbx ?_
    all_goals first|(rw[take_getD (d:=[]) hk];simp;done)|(rw[take_getD (d:=[]) hk,List.all_append,c1_1,List.all_cons,hc];rfl)|skip
  ·rw[List.take_of_length_le (by omega)]at c1_1 r1
   have r2:=pb_end hn c1_1
   have e0:(splitC 32 s).take k=splitC 32 s:=List.take_of_length_le (by omega)
   have cE1:= @spec_SplitByte_c;have cE2:= @spec_ParsePerm_c;have cE3:= @spec_IsBasis_c;have cE4:=trivial
   refine dE (And.intro fL1 @e0) ?_
   all_goals try (refine zlf ?_;repeat' first|exact zso|refine And.intro ?_ ?_|(refine zim ?_;intro zb hc)|(refine zin ?_;intro zb)|intro j')
   all_goals try refine zbx ?_
   all_goals try exact r1
   all_goals try exact zaut
   ·rw[pbL_no (r2.trans hc)];rfl
   ·exact(r2.trans hc).symm
   ·rw[pbL_yes hn (r2.trans hc)]
   ·exact(r2.trans hc).symm
theorem spec_ParseBasis_f_c (s:List UInt8) (hl:s.length≤1000):Fun Tryz.prog 165 [(.str (s))] [(.sl .own (List.map (elI false) (pbL s))),(.bool (pbOk s))]:=by
 refine fO sg0 [2,3] Tryz.func165 ?_
 have cE1:= @spec_SplitByte_c;have cE2:= @spec_ParsePerm_c;have cE3:= @spec_IsBasis_c
 have b0:=spB_len (c:=32) (s:=s) (cur:=[])
 have b9:∀x∈splitC 32 s,x.length≤1000:=fun x hx=>by have:=spB_mem x hx;simp at this;omega
 have b8:(splitC 32 s).length≤1001:=by unfold splitC;omega
 have hS:=spec_SplitByte_c s 32 (by omega)
 rw[show(((32:UInt8).toNat:Nat):Int)=32 from rfl]at hS
 have cE1:= @hS;have cE2:= @spec_SplitByte_c;have cE3:= @spec_ParsePerm_c;have cE4:= @spec_IsBasis_c
 refine dEa trivial ?_
 all_goals try (refine zlf ?_;repeat' first|exact zso|refine And.intro ?_ ?_|(refine zim ?_;intro zb hc)|(refine zin ?_;intro zb)|intro j')
 all_goals try refine zbx ?_
 ·subst hc;rfl
 ·subst hc;rfl
 ·have hn:=hc
  refine v_loopB (fun ms1 S1=>∃(k:Nat),S1.e 0=.p (.str (s))∧OwnL (S1.e 4) S1.h S1.n (elI false) ((((splitC 32 s).take k).map prsL).length) (((splitC 32 s).take k).map prsL)∧OwnL (S1.e 5) S1.h S1.n PV.str ((splitC 32 s).length) (splitC 32 s)∧S1.e 6=.p (.int .i64 (k))∧(k≤(splitC 32 s).length)∧(((splitC 32 s).take k).all prsB=true)∧NId (S1.e 5) (S1.e 4)∧ms1=(splitC 32 s).length - k) ((fun(k:Nat)=>(splitC 32 s).length - k) (0)) ?_ ⟨0,dC trivial ?_⟩
  all_goals try (refine zlf ?_;repeat' first|exact zso|refine And.intro ?_ ?_|(refine zim ?_;intro zb hc)|(refine zin ?_;intro zb)|intro j')
  all_goals try refine zbx ?_
  rintro ms1 S1 ⟨k,h1_0,o1_4,o1_5,h1_6,c1_0,c1_1,u1_0,hm1⟩
  obtain⟨i1_4,h1_4,b1_4,l1_4⟩:=o1_4.out
  obtain⟨i1_5,h1_5,b1_5,l1_5⟩:=o1_5.out
  have k1_0:=(u1_0).out h1_5 h1_4
  have ni1_4:=znds (x:=i1_4) (n:=S1.n)
  have ni1_5:=znds (x:=i1_5) (n:=S1.n)
  have di1_4i1_5:=zdne (x:=i1_4) (y:=i1_5)
  have fL1:=(And.intro h1_0 (And.intro h1_6 (And.intro h1_4 (And.intro b1_4 (And.intro h1_5 (And.intro b1_5 (And.intro ni1_4 (And.intro ni1_5 di1_4i1_5))))))))
  have b7:k<(splitC 32 s).length→((splitC 32 s).getD k []).length≤1048576:=fun h=>by have:=b9 ((splitC 32 s).getD k []) (getD_mem h);omega
  have r1:=pb_row b9 (k:=k)
  by_cases hk:k<(splitC 32 s).length
  ·have cE1:= @spec_SplitByte_c;have cE2:= @spec_ParsePerm_c;have cE3:= @spec_IsBasis_c;have cE4:=trivial
   refine dEa fL1 ?_
   all_goals try (refine zlf ?_;repeat' first|exact zso|refine And.intro ?_ ?_|(refine zim ?_;intro zb hc)|(refine zin ?_;intro zb)|intro j')
   all_goals try refine zbx ?_
   ·rw[pbL_no (pb_no hn hk hc)];rfl
   ·exact(pb_no hn hk hc).symm
   ·focus
     refine q_lp_n ((fun(k:Nat)=>(splitC 32 s).length - k) (k+1)) (dC fL1 ?_) ⟨k+1,dC fL1 ?_⟩
     all_goals try (refine zlf ?_;repeat' first|exact zso|refine And.intro ?_ ?_|(refine zim ?_;intro zb hc)|(refine zin ?_;intro zb)|intro j')
     all_goals try refine zbx ?_
    all_goals first|(rw[take_getD (d:=[]) hk];simp;done)|(rw[take_getD (d:=[]) hk,List.all_append,c1_1,List.all_cons,hc];rfl)|skip
  ·rw[List.take_of_length_le (by omega)]at c1_1 r1
   have r2:=pb_end hn c1_1
   have e0:(splitC 32 s).take k=splitC 32 s:=List.take_of_length_le (by omega)
   have cE1:= @spec_SplitByte_c;have cE2:= @spec_ParsePerm_c;have cE3:= @spec_IsBasis_c;have cE4:=trivial
   refine dE (And.intro fL1 @e0) ?_
   all_goals try (refine zlf ?_;repeat' first|exact zso|refine And.intro ?_ ?_|(refine zim ?_;intro zb hc)|(refine zin ?_;intro zb)|intro j')
   all_goals try refine zbx ?_
   all_goals try exact r1
   all_goals try exact zaut
   ·rw[pbL_no (r2.trans hc)];rfl
   ·exact(r2.trans hc).symm
   ·rw[pbL_yes hn (r2.trans hc)]
   ·exact(r2.trans hc).symm
def famB (p:List Int) (T:List (List Int)):Bool:=isPermB p&&avB T p
theorem famB_0 {p:List Int} {T:List (List Int)} (h:isPermB p=false):famB p T=false:=by rw[famB,h];rfl
theorem famB_1 {p:List Int} {T:List (List Int)} (h:isPermB p=true):famB p T=avB T p:=by rw[famB,h];rfl
theorem avB_hit {p:List Int} {W:List (List UInt8)} {k:Nat} (hk:k<W.length) (h:hasB p (prsL (W.getD k []))=true):avB (W.map prsL) p=false:=by
 have h1:((W.map prsL).any fun q=>hasB p q)=true:=List.any_eq_true.2 ⟨_,List.mem_map.2 ⟨_,getD_mem hk,rfl⟩,h⟩
 rw[avB,h1];rfl
theorem avB_none {p:List Int} {W:List (List UInt8)} (h:∀t∈W,hasB p (prsL t)=false):avB (W.map prsL) p=true:=by
 rw[avB,Bool.not_eq_true',←Bool.not_eq_true,List.any_eq_true]
 rintro⟨q,hq,h1⟩
 obtain⟨t,ht,rfl⟩:=List.mem_map.1 hq
 rw[h t ht]at h1;cases h1
theorem impl_isFreeOf_c {m0 m1:Bool} (p:List Int) (W:List (List UInt8)) (hp:p.length≤1048576) (hW:W.length≤8) (hw:∀t∈W,t.length≤100∧(prsL t).length≤8):Fun Tryz.prog 143 [(.sl (.lent m0) (List.map (PV.int .i64) (p))),(.sl (.lent m1) (List.map PV.str (W)))] [(.bool (famB p (W.map prsL)))]:=by
 by_cases h:isPermB p=true
 ·have h8:=(isPerm_facts h).1
  rw[famB_1 h]
  refine fO sg0 [4] Tryz.func143 ?_
  have cE1:= @impl_IsPerm_c;have cE2:= @impl_ParsePerm_c
  have cE1:= @impl_has0_c;have cE2:= @impl_IsPerm_c;have cE3:= @impl_ParsePerm_c
  refine dEa @h ?_
  all_goals try (refine zlf ?_;repeat' first|exact zso|refine And.intro ?_ ?_|(refine zim ?_;intro zb hc)|(refine zin ?_;intro zb)|intro j')
  all_goals try refine zbx ?_
  refine v_loopB (fun ms1 S1=>∃(k:Nat),S1.e 0=.p (.sl (.lent m0) (List.map (PV.int .i64) (p)))∧S1.e 12=.p (.sl (.lent m1) (List.map PV.str (W)))∧S1.e 13=.p (.int .i64 (W.length))∧S1.e 14=.p (.int .i64 (k))∧(k≤W.length)∧(∀t∈W.take k,hasB p (prsL t)=false)∧ms1=W.length - k) ((fun(k:Nat)=>W.length - k) (0)) ?_ ⟨0,dC trivial ?_⟩
  all_goals try (refine zlf ?_;repeat' first|exact zso|refine And.intro ?_ ?_|(refine zim ?_;intro zb hc)|(refine zin ?_;intro zb)|intro j')
  all_goals try refine zbx ?_
  rintro ms1 S1 ⟨k,h1_0,h1_12,h1_13,h1_14,c1_0,c1_1,hm1⟩
  have fL1:=(And.intro h1_0 (And.intro h1_12 (And.intro h1_13 h1_14)))
  by_cases hk:k<W.length
  ·obtain⟨w1,w2⟩:=hw _ (getD_mem (d:=[]) hk)
   cases hc0:hasB p (prsL (W.getD k []))with
   |true=>
    rw[avB_hit hk hc0]
    have cE1:= @impl_has0_c;have cE2:= @impl_IsPerm_c;have cE3:= @impl_ParsePerm_c
    refine dEa (And.intro fL1 @hc0) ?_
    all_goals try (refine zlf ?_;repeat' first|exact zso|refine And.intro ?_ ?_|(refine zim ?_;intro zb hc)|(refine zin ?_;intro zb)|intro j')
    all_goals try refine zbx ?_
    all_goals trace_state
   |false=>
    have cE1:= @impl_has0_c;have cE2:= @impl_IsPerm_c;have cE3:= @impl_ParsePerm_c
    refine dEa (And.intro fL1 @hc0) ?_
    all_goals try (refine zlf ?_;repeat' first|exact zso|refine And.intro ?_ ?_|(refine zim ?_;intro zb hc)|(refine zin ?_;intro zb)|intro j')
    all_goals try refine zbx ?_
    focus
     refine q_lp_n ((fun(k:Nat)=>W.length - k) (k+1)) (dC fL1 ?_) ⟨k+1,dC fL1 ?_⟩
     all_goals try (refine zlf ?_;repeat' first|exact zso|refine And.intro ?_ ?_|(refine zim ?_;intro zb hc)|(refine zin ?_;intro zb)|intro j')
     all_goals try refine zbx ?_
    all_goals(first|(intro t ht;rw[take_getD (d:=[]) hk]at ht;rcases List.mem_append.1 ht with g|g;exact c1_1 t g;rw[List.mem_singleton]at g;subst g;exact hc0)|skip)
    all_goals trace_state
  ·rw[List.take_of_length_le (by omega)]at c1_1
   rw[avB_none c1_1]
   have cE1:= @impl_IsPerm_c;have cE2:= @impl_ParsePerm_c;have cE3:=trivial
   refine dEa fL1 ?_
   all_goals try (refine zlf ?_;repeat' first|exact zso|refine And.intro ?_ ?_|(refine zim ?_;intro zb hc)|(refine zin ?_;intro zb)|intro j')
   all_goals try refine zbx ?_
   all_goals trace_state
 ·rw[Bool.not_eq_true]at h
  rw[famB_0 h]
  refine fO sg0 [4] Tryz.func143 ?_
  have cE1:= @impl_IsPerm_c;have cE2:= @impl_ParsePerm_c
  refine dEa @h ?_
  all_goals try (refine zlf ?_;repeat' first|exact zso|refine And.intro ?_ ?_|(refine zim ?_;intro zb hc)|(refine zin ?_;intro zb)|intro j')
  all_goals try refine zbx ?_
theorem bas_8 {L:List (List Int)} (h:basisB L=true):∀q∈L,q.length≤8:=by
 simp only[basisB,Bool.and_eq_true]at h
 intro q hq
 obtain⟨i,hi,rfl⟩:=List.getElem_of_mem hq
 have:=basK_perm h.2 hi
 rw[List.getD_eq_getElem?_getD,List.getElem?_eq_getElem hi]at this
 exact(isPerm_facts this).1
theorem spec_InClass_c {e0 m0 m1:Bool} (L:List (List Int)) (p:List Int) (hL:L.length≤1048576) (hl:∀l∈L,l.length≤1048576) (hp:p.length≤1048576):Fun Tryz.prog 166 [(.sl (.lent m0) (List.map (elI e0) (L))),(.sl (.lent m1) (List.map (PV.int .i64) (p)))] [(.bool ((basisB L&&famB p L)))]:=by
 by_cases h1:basisB L=true
 ·have h2:=bas_8 h1
  by_cases h:isPermB p=true
  ·have h8:=(isPerm_facts h).1
   rw[famB_1 h,h1]
   refine fO sg0 [4] Tryz.func166 ?_
   have cE1:= @spec_IsBasis_c;have cE2:= @spec_IsPerm_c;have cE3:= @spec_l12Avoids_c
   refine dEa (And.intro @h @h1) ?_
   all_goals try (refine zlf ?_;repeat' first|exact zso|refine And.intro ?_ ?_|(refine zim ?_;intro zb hc)|(refine zin ?_;intro zb)|intro j')
   all_goals try refine zbx ?_
   all_goals trace_state
  ·rw[Bool.not_eq_true]at h
   rw[famB_0 h,h1]
   refine fO sg0 [4] Tryz.func166 ?_
   have cE1:= @spec_IsBasis_c;have cE2:= @spec_IsPerm_c;have cE3:= @spec_l12Avoids_c
   refine dEa (And.intro @h @h1) ?_
   all_goals try (refine zlf ?_;repeat' first|exact zso|refine And.intro ?_ ?_|(refine zim ?_;intro zb hc)|(refine zin ?_;intro zb)|intro j')
   all_goals try refine zbx ?_
   all_goals trace_state
 ·rw[Bool.not_eq_true]at h1
  rw[h1]
  refine fO sg0 [4] Tryz.func166 ?_
  have cE1:= @spec_IsBasis_c;have cE2:= @spec_IsPerm_c;have cE3:= @spec_l12Avoids_c
  refine dEa @h1 ?_
  all_goals try (refine zlf ?_;repeat' first|exact zso|refine And.intro ?_ ?_|(refine zim ?_;intro zb hc)|(refine zin ?_;intro zb)|intro j')
  all_goals try refine zbx ?_
  all_goals trace_state
theorem spec_l29Avoids_c {m0:Bool} (p:List Int) (t:List UInt8) (hp:p.length≤1048576) (ht:t.length≤100) (h1:(pbL t).length≤8) (h2:∀l∈pbL t,l.length≤8):Fun Tryz.prog 127 [(.sl (.lent m0) (List.map (PV.int .i64) (p))),(.str (t))] [(.bool ((basisB (pbL t)&&famB p (pbL t))))]:=by
 refine fO sg0 [4] Tryz.func127 ?_
 have cE1:= @spec_ParseBasis_c;have cE2:= @spec_ParseBasis_f_c;have cE3:= @spec_InClass_c
 have cp:=spec_ParseBasis_f_c t (by omega)
 have h3:∀l∈pbL t,l.length≤1048576:=fun l hl=>by have:=h2 l hl;omega
 have cE1:= @cp;have cE2:= @spec_InClass_c;have cE3:=trivial
 refine dEa trivial ?_
 all_goals try (refine zlf ?_;repeat' first|exact zso|refine And.intro ?_ ?_|(refine zim ?_;intro zb hc)|(refine zin ?_;intro zb)|intro j')
 all_goals try refine zbx ?_
 all_goals trace_state
def vexT:List (List Int):=[[2,1,4,3]]
def skmT:List (List Int):=[[2,1,4,3],[3,4,1,2]]
def comT:List (List Int):=[[3,2,1]]
def smoT:List (List Int):=[[3,4,1,2],[4,2,3,1]]
theorem avB_two {a b p:List Int}:avB [a,b] p=avB [b,a] p:=by
 unfold avB;simp only[List.any_cons,List.any_nil,Bool.or_false];rw[Bool.or_comm]
theorem impl_IsVexillary_c {m0:Bool} (p:List Int) (hp:p.length≤1048576):Fun Tryz.prog 100 [(.sl (.lent m0) (List.map (PV.int .i64) (p)))] [(.bool (famB p vexT))]:=by
 refine fO sg0 [2] Tryz.func100 ?_
 have cE1:= @impl_isFreeOf_c
 have c1:=impl_isFreeOf_c (m0:=m0) (m1:=true) p [[50,49,52,51]] hp (by decide) (by decide+kernel)
 have e:famB p (([[50,49,52,51]]:List (List UInt8)).map prsL)=famB p vexT:=by
  rw[show([[50,49,52,51]]:List (List UInt8)).map prsL=vexT from by decide+kernel]
 rw[e]at c1
 simp only[List.map_cons,List.map_nil]at c1
 have cE1:= @c1
 refine dEa trivial ?_
 all_goals try (refine zlf ?_;repeat' first|exact zso|refine And.intro ?_ ?_|(refine zim ?_;intro zb hc)|(refine zin ?_;intro zb)|intro j')
 all_goals try refine zbx ?_
 all_goals trace_state
theorem spec_IsVexillary_c {m0:Bool} (p:List Int) (hp:p.length≤1048576):Fun Tryz.prog 79 [(.sl (.lent m0) (List.map (PV.int .i64) (p)))] [(.bool (famB p vexT))]:=by
 refine fO sg0 [2] Tryz.func79 ?_
 have cE1:= @spec_l29Avoids_c
 have c1:=spec_l29Avoids_c (m0:=m0) p [50,49,52,51] hp (by decide) (by decide+kernel) (by decide+kernel)
 have e1:pbL [50,49,52,51]=vexT:=by decide+kernel
 have e2:basisB vexT=true:=by decide+kernel
 rw[e1,e2,Bool.true_and]at c1
 have cE1:= @c1
 refine dEa trivial ?_
 all_goals try (refine zlf ?_;repeat' first|exact zso|refine And.intro ?_ ?_|(refine zim ?_;intro zb hc)|(refine zin ?_;intro zb)|intro j')
 all_goals try refine zbx ?_
 all_goals trace_state
theorem impl_IsSkewMerged_c {m0:Bool} (p:List Int) (hp:p.length≤1048576):Fun Tryz.prog 102 [(.sl (.lent m0) (List.map (PV.int .i64) (p)))] [(.bool (famB p skmT))]:=by
 refine fO sg0 [2] Tryz.func102 ?_
 have cE1:= @impl_isFreeOf_c
 have c1:=impl_isFreeOf_c (m0:=m0) (m1:=true) p [[51,52,49,50],[50,49,52,51]] hp (by decide) (by decide+kernel)
 have e:famB p (([[51,52,49,50],[50,49,52,51]]:List (List UInt8)).map prsL)=famB p skmT:=by
  rw[show([[51,52,49,50],[50,49,52,51]]:List (List UInt8)).map prsL=[[3,4,1,2],[2,1,4,3]]from by decide+kernel,famB,famB,skmT,avB_two]
 rw[e]at c1
 simp only[List.map_cons,List.map_nil]at c1
 have cE1:= @c1
 refine dEa trivial ?_
 all_goals try (refine zlf ?_;repeat' first|exact zso|refine And.intro ?_ ?_|(refine zim ?_;intro zb hc)|(refine zin ?_;intro zb)|intro j')
 all_goals try refine zbx ?_
 all_goals trace_state
theorem spec_IsSkewMerged_c {m0:Bool} (p:List Int) (hp:p.length≤1048576):Fun Tryz.prog 81 [(.sl (.lent m0) (List.map (PV.int .i64) (p)))] [(.bool (famB p skmT))]:=by
 refine fO sg0 [2] Tryz.func81 ?_
 have cE1:= @spec_l29Avoids_c
 have c1:=spec_l29Avoids_c (m0:=m0) p [50,49,52,51,32,51,52,49,50] hp (by decide) (by decide+kernel) (by decide+kernel)
 have e1:pbL [50,49,52,51,32,51,52,49,50]=skmT:=by decide+kernel
 have e2:basisB skmT=true:=by decide+kernel
 rw[e1,e2,Bool.true_and]at c1
 have cE1:= @c1
 refine dEa trivial ?_
 all_goals try (refine zlf ?_;repeat' first|exact zso|refine And.intro ?_ ?_|(refine zim ?_;intro zb hc)|(refine zin ?_;intro zb)|intro j')
 all_goals try refine zbx ?_
 all_goals trace_state
theorem impl_IsCommutative_c {m0:Bool} (p:List Int) (hp:p.length≤1048576):Fun Tryz.prog 101 [(.sl (.lent m0) (List.map (PV.int .i64) (p)))] [(.bool (famB p comT))]:=by
 refine fO sg0 [2] Tryz.func101 ?_
 have cE1:= @impl_isFreeOf_c
 have c1:=impl_isFreeOf_c (m0:=m0) (m1:=true) p [[51,50,49]] hp (by decide) (by decide+kernel)
 have e:famB p (([[51,50,49]]:List (List UInt8)).map prsL)=famB p comT:=by
  rw[show([[51,50,49]]:List (List UInt8)).map prsL=comT from by decide+kernel]
 rw[e]at c1
 simp only[List.map_cons,List.map_nil]at c1
 have cE1:= @c1
 refine dEa trivial ?_
 all_goals try (refine zlf ?_;repeat' first|exact zso|refine And.intro ?_ ?_|(refine zim ?_;intro zb hc)|(refine zin ?_;intro zb)|intro j')
 all_goals try refine zbx ?_
 all_goals trace_state
theorem spec_IsCommutative_c {m0:Bool} (p:List Int) (hp:p.length≤1048576):Fun Tryz.prog 80 [(.sl (.lent m0) (List.map (PV.int .i64) (p)))] [(.bool (famB p comT))]:=by
 refine fO sg0 [2] Tryz.func80 ?_
 have cE1:= @spec_l29Avoids_c
 have c1:=spec_l29Avoids_c (m0:=m0) p [51,50,49] hp (by decide) (by decide+kernel) (by decide+kernel)
 have e1:pbL [51,50,49]=comT:=by decide+kernel
 have e2:basisB comT=true:=by decide+kernel
 rw[e1,e2,Bool.true_and]at c1
 have cE1:= @c1
 refine dEa trivial ?_
 all_goals try (refine zlf ?_;repeat' first|exact zso|refine And.intro ?_ ?_|(refine zim ?_;intro zb hc)|(refine zin ?_;intro zb)|intro j')
 all_goals try refine zbx ?_
 all_goals trace_state
theorem impl_IsSmooth_c {m0:Bool} (p:List Int) (hp:p.length≤1048576):Fun Tryz.prog 99 [(.sl (.lent m0) (List.map (PV.int .i64) (p)))] [(.bool (famB p smoT))]:=by
 refine fO sg0 [2] Tryz.func99 ?_
 have cE1:= @impl_isFreeOf_c
 have c1:=impl_isFreeOf_c (m0:=m0) (m1:=true) p [[51,52,49,50],[52,50,51,49]] hp (by decide) (by decide+kernel)
 have e:famB p (([[51,52,49,50],[52,50,51,49]]:List (List UInt8)).map prsL)=famB p smoT:=by
  rw[show([[51,52,49,50],[52,50,51,49]]:List (List UInt8)).map prsL=smoT from by decide+kernel]
 rw[e]at c1
 simp only[List.map_cons,List.map_nil]at c1
 have cE1:= @c1
 refine dEa trivial ?_
 all_goals try (refine zlf ?_;repeat' first|exact zso|refine And.intro ?_ ?_|(refine zim ?_;intro zb hc)|(refine zin ?_;intro zb)|intro j')
 all_goals try refine zbx ?_
 all_goals trace_state
theorem spec_IsSmooth_c {m0:Bool} (p:List Int) (hp:p.length≤1048576):Fun Tryz.prog 78 [(.sl (.lent m0) (List.map (PV.int .i64) (p)))] [(.bool (famB p smoT))]:=by
 refine fO sg0 [2] Tryz.func78 ?_
 have cE1:= @spec_l29Avoids_c
 have c1:=spec_l29Avoids_c (m0:=m0) p [51,52,49,50,32,52,50,51,49] hp (by decide) (by decide+kernel) (by decide+kernel)
 have e1:pbL [51,52,49,50,32,52,50,51,49]=smoT:=by decide+kernel
 have e2:basisB smoT=true:=by decide+kernel
 rw[e1,e2,Bool.true_and]at c1
 have cE1:= @c1
 refine dEa trivial ?_
 all_goals try (refine zlf ?_;repeat' first|exact zso|refine And.intro ?_ ?_|(refine zim ?_;intro zb hc)|(refine zin ?_;intro zb)|intro j')
 all_goals try refine zbx ?_
 all_goals trace_state
def layB (p:List Int):Bool:=isPermB p&&(sumPt p).all dnB
theorem sum_few {p:List Int} (hp:isPermB p=true):(sumPt p).length≤8∧∀q∈sumPt p,isPermB q=true:=⟨(sumPt_f hp).2.2.1,fun q hq=>((sumPt_f hp).2.2.2 q hq).1⟩
theorem impl_IsLayered_1_c {m0:Bool} (q:List Int) (hq:isPermB q=true):Fun Tryz.prog 141 [(.sl (.lent m0) (List.map (PV.int .i64) (q)))] [(.bool (!(dnB q)))]:=by
 refine fO sg0 [2] Tryz.func141 ?_
 have cE1:= @impl_isFalling_c
 refine dEa trivial ?_
 all_goals try (refine zlf ?_;repeat' first|exact zso|refine And.intro ?_ ?_|(refine zim ?_;intro zb hc)|(refine zin ?_;intro zb)|intro j')
 all_goals try refine zbx ?_
theorem impl_IsLayered_c {m0:Bool} (p:List Int) (hp:p.length≤1048576):Fun Tryz.prog 98 [(.sl (.lent m0) (List.map (PV.int .i64) (p)))] [(.bool (layB p))]:=by
 by_cases h:isPermB p=true
 ·obtain⟨h8,_⟩:=isPerm_facts h
  have hb:=perm_b8 h
  obtain⟨s1,s2⟩:=sum_few h
  have e1:(spG shI p p.length).1=sumPt p:=rfl
  have e2:layB p= !((sumPt p).any fun q=> !(dnB q)):=by
   rw[layB,h,Bool.true_and,List.not_any_eq_all_not];simp
  have c1:=fun(e0 m0:Bool)=>slices_ContainsFunc_LLint_int_c (e0:=e0) (m0:=m0) (sumPt p) 141 [] (fun q=> !(dnB q)) (by omega) (fun q hq=>impl_IsLayered_1_c (m0:=e0) q (s2 q hq))
  rw[e2]
  refine fO sg0 [2] Tryz.func98 ?_
  have cE1:= @impl_IsPerm_c;have cE2:= @impl_sumParts_c;have cE3:= @slices_ContainsFunc_LLint_int_c;have cE4:= @impl_IsLayered_1_c
  have cE1:= @c1;have cE2:= @impl_IsPerm_c;have cE3:= @impl_sumParts_c;have cE4:= @slices_ContainsFunc_LLint_int_c;have cE5:= @impl_IsLayered_1_c
  refine dEa (And.intro @h @e1) ?_
  all_goals try (refine zlf ?_;repeat' first|exact zso|refine And.intro ?_ ?_|(refine zim ?_;intro zb hc)|(refine zin ?_;intro zb)|intro j')
  all_goals try refine zbx ?_
  all_goals trace_state
 ·rw[Bool.not_eq_true]at h
  have e:layB p=false:=by rw[layB,h];rfl
  rw[e]
  refine fO sg0 [2] Tryz.func98 ?_
  have cE1:= @impl_IsPerm_c;have cE2:= @impl_sumParts_c;have cE3:= @slices_ContainsFunc_LLint_int_c;have cE4:= @impl_IsLayered_1_c
  refine dEa @h ?_
  all_goals try (refine zlf ?_;repeat' first|exact zso|refine And.intro ?_ ?_|(refine zim ?_;intro zb hc)|(refine zin ?_;intro zb)|intro j')
  all_goals try refine zbx ?_
theorem spec_IsLayered_c {m0:Bool} (p:List Int) (hp:p.length≤1048576):Fun Tryz.prog 77 [(.sl (.lent m0) (List.map (PV.int .i64) (p)))] [(.bool (layB p))]:=by
 by_cases h:isPermB p=true
 ·obtain⟨h8,hq⟩:=isPerm_facts h
  obtain⟨s1,s2⟩:=sum_few h
  have e1:(spG ptI p p.length).1=sumPt p:=sumPt_pt hq
  refine fO sg0 [2] Tryz.func77 ?_
  have cE1:= @spec_SumParts_n_c;have cE2:= @spec_SumParts_c;have cE3:= @spec_l3Reverse_c;have cE4:= @spec_IdentityPerm_c;have cE5:= @spec_l2Same_c;have cE6:= @spec_IsPerm_c
  have cD1:=zdh [false,false,false,false,true,false,false,false,false,false,true,true,false] [(4,5),(4,6),(4,7),(4,8),(4,9)]
  have cE1:= @spec_SumParts_c;have cE2:= @spec_l3Reverse_c;have cE3:= @spec_IdentityPerm_c;have cE4:= @spec_l2Same_c;have cE5:= @spec_IsPerm_c;have cE6:=trivial
  refine dEa (And.intro @h @e1) ?_
  all_goals try (refine zlf ?_;repeat' first|exact zso|refine And.intro ?_ ?_|(refine zim ?_;intro zb hc)|(refine zin ?_;intro zb)|intro j')
  all_goals try refine zbx ?_
  refine v_loopB (fun ms1 S1=>∃(k:Nat),S1.e 0=.p (.sl (.lent m0) (List.map (PV.int .i64) (p)))∧OwnL (S1.e 3) S1.h S1.n (elI false) ((sumPt p).length) (sumPt p)∧S1.e 4=.p (.int .i64 (k))∧(k≤(sumPt p).length)∧(∀q∈(sumPt p).take k,dnB q=true)∧ms1=(sumPt p).length - k) ((fun(k:Nat)=>(sumPt p).length - k) (0)) ?_ ⟨0,dC trivial ?_⟩
  all_goals try (refine zlf ?_;repeat' first|exact zso|refine And.intro ?_ ?_|(refine zim ?_;intro zb hc)|(refine zin ?_;intro zb)|intro j')
  all_goals try refine zbx ?_
  rintro ms1 S1 ⟨k,h1_0,o1_3,h1_4,c1_0,c1_1,hm1⟩
  obtain⟨i1_3,h1_3,b1_3,l1_3⟩:=o1_3.out
  have ni1_3:=znds (x:=i1_3) (n:=S1.n)
  have fL1:=(And.intro h1_0 (And.intro h1_4 (And.intro h1_3 (And.intro b1_3 ni1_3))))
  by_cases hk:k<(sumPt p).length
  ·have r1:=s2 _ (getD_mem (d:=[]) hk)
   obtain⟨r2,r3⟩:=isPerm_facts r1
   have r4:((sumPt p).getD k []).reverse.length=((sumPt p).getD k []).length:=List.length_reverse
   have r5:(idL ((sumPt p).getD k []).length).length=((sumPt p).getD k []).length:=idL_len
   have r6:decide (((sumPt p).getD k []).reverse=idL ((sumPt p).getD k []).length)=dnB ((sumPt p).getD k []):=rfl
   cases hd:dnB ((sumPt p).getD k [])with
   |true=>
    have cE1:= @spec_l3Reverse_c;have cE2:= @spec_IdentityPerm_c;have cE3:= @spec_l2Same_c;have cE4:= @spec_IsPerm_c;have cE5:=trivial;have cE6:=trivial
    refine dEa (And.intro fL1 (And.intro @r6 @hd)) ?_
    all_goals try (refine zlf ?_;repeat' first|exact zso|refine And.intro ?_ ?_|(refine zim ?_;intro zb hc)|(refine zin ?_;intro zb)|intro j')
    all_goals try refine zbx ?_
    focus
     refine q_lp_n ((fun(k:Nat)=>(sumPt p).length - k) (k+1)) (dC fL1 ?_) ⟨k+1,dC fL1 ?_⟩
     all_goals try (refine zlf ?_;repeat' first|exact zso|refine And.intro ?_ ?_|(refine zim ?_;intro zb hc)|(refine zin ?_;intro zb)|intro j')
     all_goals try refine zbx ?_
    all_goals(first|(intro q hq;rw[take_getD (d:=[]) hk]at hq;rcases List.mem_append.1 hq with g|g;exact c1_1 q g;rw[List.mem_singleton]at g;subst g;exact hd)|skip)
    all_goals trace_state
   |false=>
    have e:layB p=false:=by
     rw[layB,Bool.and_eq_false_iff]
     exact .inr (List.all_eq_false.2 ⟨_,getD_mem (d:=[]) hk,by rw[hd];decide⟩)
    rw[e]
    have cE1:= @spec_l3Reverse_c;have cE2:= @spec_IdentityPerm_c;have cE3:= @spec_l2Same_c;have cE4:= @spec_IsPerm_c;have cE5:=trivial;have cE6:=trivial
    refine dEa (And.intro fL1 (And.intro @r6 @hd)) ?_
    all_goals try (refine zlf ?_;repeat' first|exact zso|refine And.intro ?_ ?_|(refine zim ?_;intro zb hc)|(refine zin ?_;intro zb)|intro j')
    all_goals try refine zbx ?_
    all_goals trace_state
  ·rw[List.take_of_length_le (by omega)]at c1_1
   have e:layB p=true:=by rw[layB,h,Bool.true_and];exact List.all_eq_true.2 c1_1
   rw[e]
   have cE1:= @spec_l3Reverse_c;have cE2:= @spec_IdentityPerm_c;have cE3:= @spec_l2Same_c;have cE4:= @spec_IsPerm_c;have cE5:=trivial;have cE6:=trivial
   refine dEa (And.intro fL1 @h) ?_
   all_goals try (refine zlf ?_;repeat' first|exact zso|refine And.intro ?_ ?_|(refine zim ?_;intro zb hc)|(refine zin ?_;intro zb)|intro j')
   all_goals try refine zbx ?_
   all_goals trace_state
 ·rw[Bool.not_eq_true]at h
  have e:layB p=false:=by rw[layB,h];rfl
  rw[e]
  refine fO sg0 [2] Tryz.func77 ?_
  have cE1:= @spec_SumParts_n_c;have cE2:= @spec_SumParts_c;have cE3:= @spec_l3Reverse_c;have cE4:= @spec_IdentityPerm_c;have cE5:= @spec_l2Same_c;have cE6:= @spec_IsPerm_c
  have cD1:=zdh [false,false,false,false,true,false,false,false,false,false,true,true,false] [(4,5),(4,6),(4,7),(4,8),(4,9)]
  have cE2:= @spec_l3Reverse_c;have cE3:= @spec_IdentityPerm_c;have cE4:= @spec_l2Same_c;have cE5:= @spec_IsPerm_c;have cE6:=trivial
  refine dEa @h ?_
  all_goals try (refine zlf ?_;repeat' first|exact zso|refine And.intro ?_ ?_|(refine zim ?_;intro zb hc)|(refine zin ?_;intro zb)|intro j')
  all_goals try refine zbx ?_
  refine v_loopB (fun ms1 S1=>∃(k:Nat),S1.e 0=.p (.sl (.lent m0) (List.map (PV.int .i64) (p)))∧OwnL (S1.e 3) S1.h S1.n (elI false) ((([]:List (List Int))).length) (([]:List (List Int)))∧S1.e 4=.p (.int .i64 (k))∧(k=0)∧ms1=0) ((fun(k:Nat)=>0) (0)) ?_ ⟨0,dIa trivial ?_⟩
  all_goals try (refine zlf ?_;repeat' first|exact zso|refine And.intro ?_ ?_|(refine zim ?_;intro zb hc)|(refine zin ?_;intro zb)|intro j')
  all_goals try refine zbx ?_
  rintro ms1 S1 ⟨k,h1_0,o1_3,h1_4,c1_0,hm1⟩
  obtain⟨i1_3,h1_3,b1_3,l1_3⟩:=o1_3.out
  have ni1_3:=znds (x:=i1_3) (n:=S1.n)
  have fL1:=(And.intro h1_0 (And.intro h1_4 (And.intro h1_3 (And.intro b1_3 ni1_3))))
  subst c1_0
  have cE1:= @spec_l3Reverse_c;have cE2:= @spec_IdentityPerm_c;have cE3:= @spec_l2Same_c;have cE4:= @spec_IsPerm_c;have cE5:=trivial;have cE6:=trivial
  refine dEa (And.intro fL1 @h) ?_
  all_goals try (refine zlf ?_;repeat' first|exact zso|refine And.intro ?_ ?_|(refine zim ?_;intro zb hc)|(refine zin ?_;intro zb)|intro j')
  all_goals try refine zbx ?_
  all_goals trace_state
theorem tk_mid {L D:List (List Int)} {p:List Int} {j:Nat} (h:j≤L.length):List.take (j+1) (L.take j++p::D)=L.take j++[p]:=by
 rw[List.take_append,List.take_of_length_le (by simp;omega),List.length_take,Nat.min_eq_left h,Nat.add_sub_cancel_left];rfl
theorem put_at {L:List (List Int)} {p:List Int} {j:Nat} (h1:j≤L.length) (h2:∀q,j≤q→q<L.length→befB p (L.getD q [])=true) (h3:0<j→befB p (L.getD (j - 1) [])=false) (h4:0<j→¬L.getD (j - 1) []=p):putP L p=L.take j++p::L.drop j:=by
 have e:=atP_uniq h1 h2 h3
 rw[putP,insS,e,if_neg fun h=>h4 h.1 h.2];rfl
theorem put_in {L:List (List Int)} {p:List Int} {j:Nat} (h1:j≤L.length) (h2:∀q,j≤q→q<L.length→befB p (L.getD q [])=true) (h3:0<j→befB p (L.getD (j - 1) [])=false) (h4:0<j) (h5:L.getD (j - 1) []=p):putP L p=L:=by
 have e:=atP_uniq h1 h2 h3
 rw[putP,e,if_pos ⟨h4,h5⟩]
theorem bef_dn {L:List (List Int)} {p:List Int} {j:Nat} (h2:∀q,j≤q→q<L.length→befB p (L.getD q [])=true) (h3:befB p (L.getD (j - 1) [])=true):∀q,j - 1≤q→q<L.length→befB p (L.getD q [])=true:=fun q a b=>by
 by_cases e:q=j - 1
 ·rw[e];exact h3
 ·exact h2 q (by omega) b
theorem spec_l3Put_c {m1:Bool} (L:List (List Int)) (p:List Int) (hL:L.length≤1000000000) (hl:∀l∈L,l.length≤1048576) (hp:p.length≤1048576):CallT Tryz.prog true 118 [.mu false (List.map (elI false) (L)),.pv (.sl (.lent m1) (List.map (PV.int .i64) (p)))] [none,none] [(.sl .own (List.map (elI false) (putP L p)))]:=by
 refine fX sg0 [4] Tryz.func118 ?_
 have cE1:= @spec_l2Before_c;have cE2:= @spec_l2Same_c;have cD1:=zdh [false,false,false,true,false,true,true,true,false,true,false] [(0,3),(1,3),(2,3),(3,4),(0,5),(1,5),(2,5),(0,6),(1,6),(2,6),(3,8),(5,8),(6,8),(7,8)]
 refine dTa trivial ?_
 all_goals try (refine zlf ?_;repeat' first|exact zso|refine And.intro ?_ ?_|(refine zim ?_;intro zb hc;repeat (have zc:=zb.1;replace zb:=zb.2))|(refine zin ?_;intro zb)|intro j')
 all_goals try refine zbx ?_
 refine v_loopB (fun ms1 S1=>∃(j:Nat),S1.e 0=.ref 0 0 (L).length∧S1.h 0=.live true (List.map (elI false) (L))∧0<S1.n∧S1.e 1=.p (.sl (.lent m1) (List.map (PV.int .i64) (p)))∧S1.e 5=.p (.int .i64 (j))∧(j≤L.length)∧(∀q,j≤q→q<L.length→befB p (L.getD q [])=true)∧ms1=j) ((fun(j:Nat)=>j) (L.length)) ?_ ⟨L.length,dC trivial ?_⟩
 all_goals try (refine zlf ?_;repeat' first|exact zso|refine And.intro ?_ ?_|(refine zim ?_;intro zb hc;repeat (have zc:=zb.1;replace zb:=zb.2))|(refine zin ?_;intro zb)|intro j')
 all_goals try refine zbx ?_
 rintro ms1 S1 ⟨j,h1_0,b1_0,l1_0,h1_1,h1_5,c1_0,c1_1,hm1⟩
 have n0:=znds (x:=0) (n:=S1.n)
 have fL1:=(And.intro h1_0 (And.intro b1_0 (And.intro h1_1 (And.intro h1_5 n0))))
 ·have e1:((j:Int) - 1).toNat=j - 1:=by omega
  have e3:List.take (L.length - j) (List.drop j L)=L.drop j:=List.take_of_length_le (by simp)
  by_cases hj:0<j
  ·have e2:=hl (L.getD (j - 1) []) (getD_mem (by omega))
   have gg:((0:Int)<(j:Int))=True:=eq_true (by omega)
   by_cases h0:j=L.length
   ·have h0':=h0
    subst h0'
    have e4:List.drop L.length L=[]:=List.drop_length
    have e5:List.take L.length L=L:=List.take_length
    have f1:(L.length+1=(L++[p]).length)=True:=eq_true (by simp)
    refine dTa (And.intro fL1 (And.intro @e1 (And.intro @e3 (And.intro @e4 (And.intro @e5 (And.intro @f1 @gg)))))) ?_
    all_goals try (refine zlf ?_;repeat' first|exact zso|refine And.intro ?_ ?_|(refine zim ?_;intro zb hc;repeat (have zc:=zb.1;replace zb:=zb.2))|(refine zin ?_;intro zb)|intro j')
    all_goals try refine zbx ?_
    ·focus
      refine q_lp_n ((fun(j:Nat)=>j) (L.length - 1)) (dC fL1 ?_) ⟨L.length - 1,dC fL1 ?_⟩
      all_goals try (refine zlf ?_;repeat' first|exact zso|refine And.intro ?_ ?_|(refine zim ?_;intro zb hc;repeat (have zc:=zb.1;replace zb:=zb.2))|(refine zin ?_;intro zb)|intro j')
      all_goals try refine zbx ?_
     exact bef_dn c1_1 hc
    ·exact(put_in (Nat.le_refl _) c1_1 (fun _=>by assumption) hj hc).symm
    ·rw[put_at (Nat.le_refl _) c1_1 (fun _=>by assumption) (fun _=>by assumption),List.take_of_length_le (by simp)];simp
   ·have f0:(j=L.length)=False:=eq_false h0
    have f1:(j+1≤L.length)=True:=eq_true (by omega)
    have f2:(List.take j L++p::List.drop (j+1) L).length=L.length:=by simp;omega
    have f3:(List.drop j L).length=L.length - j:=by simp
    by_cases h1:j+1=L.length
    ·have f4:(j+1=L.length)=True:=eq_true h1
     refine dTa (And.intro fL1 (And.intro @e1 (And.intro @e3 (And.intro @f0 (And.intro @f1 (And.intro @f2 (And.intro @f3 (And.intro @f4 @gg)))))))) ?_
     all_goals try (refine zlf ?_;repeat' first|exact zso|refine And.intro ?_ ?_|(refine zim ?_;intro zb hc;repeat (have zc:=zb.1;replace zb:=zb.2))|(refine zin ?_;intro zb)|intro j')
     all_goals try refine zbx ?_
     ·focus
       refine q_lp_n ((fun(j:Nat)=>j) (j - 1)) (dC fL1 ?_) ⟨j - 1,dC fL1 ?_⟩
       all_goals try (refine zlf ?_;repeat' first|exact zso|refine And.intro ?_ ?_|(refine zim ?_;intro zb hc;repeat (have zc:=zb.1;replace zb:=zb.2))|(refine zin ?_;intro zb)|intro j')
       all_goals try refine zbx ?_
      exact bef_dn c1_1 hc
     ·exact(put_in c1_0 c1_1 (fun _=>by assumption) hj hc).symm
     ·rw[put_at c1_0 c1_1 (fun _=>by assumption) (fun _=>by assumption),List.drop_of_length_le (i:=j+1) (by omega),List.nil_append,List.take_of_length_le (by simp;omega)]
    ·have f4:(j+1=L.length)=False:=eq_false h1
     have f5:(j+(1+(L.length - j))≤L.length)=False:=eq_false (by omega)
     refine dTa (And.intro fL1 (And.intro @e1 (And.intro @e3 (And.intro @f0 (And.intro @f1 (And.intro @f2 (And.intro @f3 (And.intro @f4 (And.intro @f5 @gg))))))))) ?_
     all_goals try (refine zlf ?_;repeat' first|exact zso|refine And.intro ?_ ?_|(refine zim ?_;intro zb hc;repeat (have zc:=zb.1;replace zb:=zb.2))|(refine zin ?_;intro zb)|intro j')
     all_goals try refine zbx ?_
     ·focus
       refine q_lp_n ((fun(j:Nat)=>j) (j - 1)) (dC fL1 ?_) ⟨j - 1,dC fL1 ?_⟩
       all_goals try (refine zlf ?_;repeat' first|exact zso|refine And.intro ?_ ?_|(refine zim ?_;intro zb hc;repeat (have zc:=zb.1;replace zb:=zb.2))|(refine zin ?_;intro zb)|intro j')
       all_goals try refine zbx ?_
      exact bef_dn c1_1 hc
     ·exact(put_in c1_0 c1_1 (fun _=>by assumption) hj hc).symm
     ·rw[put_at c1_0 c1_1 (fun _=>by assumption) (fun _=>by assumption),tk_mid (by omega),List.take_of_length_le (by simp;omega),List.append_assoc];rfl
  ·have gg:((0:Int)<(j:Int))=False:=eq_false (by omega)
   by_cases h0:j=L.length
   ·have h0':=h0
    subst h0'
    have e4:List.drop L.length L=[]:=List.drop_length
    have e5:List.take L.length L=L:=List.take_length
    have f1:(L.length+1=(L++[p]).length)=True:=eq_true (by simp)
    refine dTa (And.intro fL1 (And.intro @e1 (And.intro @e3 (And.intro @e4 (And.intro @e5 (And.intro @f1 @gg)))))) ?_
    all_goals try (refine zlf ?_;repeat' first|exact zso|refine And.intro ?_ ?_|(refine zim ?_;intro zb hc;repeat (have zc:=zb.1;replace zb:=zb.2))|(refine zin ?_;intro zb)|intro j')
    all_goals try refine zbx ?_
    rw[put_at (Nat.le_refl _) c1_1 (fun h=>absurd h hj) (fun h=>absurd h hj),List.take_of_length_le (by simp)];simp
   ·have f0:(j=L.length)=False:=eq_false h0
    have f1:(j+1≤L.length)=True:=eq_true (by omega)
    have f2:(List.take j L++p::List.drop (j+1) L).length=L.length:=by simp;omega
    have f3:(List.drop j L).length=L.length - j:=by simp
    by_cases h1:j+1=L.length
    ·have f4:(j+1=L.length)=True:=eq_true h1
     refine dTa (And.intro fL1 (And.intro @e1 (And.intro @e3 (And.intro @f0 (And.intro @f1 (And.intro @f2 (And.intro @f3 (And.intro @f4 @gg)))))))) ?_
     all_goals try (refine zlf ?_;repeat' first|exact zso|refine And.intro ?_ ?_|(refine zim ?_;intro zb hc;repeat (have zc:=zb.1;replace zb:=zb.2))|(refine zin ?_;intro zb)|intro j')
     all_goals try refine zbx ?_
     rw[put_at c1_0 c1_1 (fun h=>absurd h hj) (fun h=>absurd h hj),List.drop_of_length_le (i:=j+1) (by omega),List.nil_append,List.take_of_length_le (by simp;omega)]
    ·have f4:(j+1=L.length)=False:=eq_false h1
     have f5:(j+(1+(L.length - j))≤L.length)=False:=eq_false (by omega)
     refine dTa (And.intro fL1 (And.intro @e1 (And.intro @e3 (And.intro @f0 (And.intro @f1 (And.intro @f2 (And.intro @f3 (And.intro @f4 (And.intro @f5 @gg))))))))) ?_
     all_goals try (refine zlf ?_;repeat' first|exact zso|refine And.intro ?_ ?_|(refine zim ?_;intro zb hc;repeat (have zc:=zb.1;replace zb:=zb.2))|(refine zin ?_;intro zb)|intro j')
     all_goals try refine zbx ?_
     rw[put_at c1_0 c1_1 (fun h=>absurd h hj) (fun h=>absurd h hj),tk_mid (by omega),List.take_of_length_le (by simp;omega),List.append_assoc];rfl
 all_goals trace_state
theorem isP_8 {p:List Int} (h:isPermB p=true):p.length≤8∧permB p=true:=by simpa[isPermB]using h
end Go.Gl
