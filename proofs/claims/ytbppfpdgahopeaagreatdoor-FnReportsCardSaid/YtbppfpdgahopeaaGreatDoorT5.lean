/-
  What the functions compute, and what the law asks of it: texts joined. Conditions: those that each lemma names.
-/
import Derived.Test.YtbppfpdgahopeaaGreatDoorT2
import Derived.Test.YtbppfpdgahopeaaGreatDoorT4
import Derived.Shelf.Strings.Builder1
import Derived.Shelf.Strings.Builder2
import Derived.Shelf.Strings.OnBuilder
import Derived.Shelf.Small.Bits
import Derived.Shelf.Strconv.Itoa0
import Derived.Shelf.Strconv.Itoa1
import Derived.Shelf.LaysM
import Derived.Shelf.Strconv.Itoa2
import Derived.Shelf.Strconv.Itoa3
import Derived.Shelf.Slices.Turned
import Derived.Shelf.Slices.Reverse
import Derived.Shelf.Slices.Equal
import Derived.Ground.Names2Prog
import Derived.Shelf.Slices.Clone
import Derived.Shelf.Slices.SearchI
import Derived.Shelf.Slices.Cells
import Derived.Ground.SlgnProg
import Derived.Shelf.SlicesE.Clone
import Derived.Test.YtbppfpdgahopeaaGreatDoorProg
import Derived.Test.YtbppfpdgahopeaaGreatDoorT1
set_option linter.unusedSimpArgs false
set_option linter.unusedVariables false
set_option maxRecDepth 20000
set_option linter.unusedSectionVars false
set_option maxHeartbeats 16000000
namespace Go.Gl
open Go Go.Proofs
variable [Amb] [NoQ]
theorem sG {a b:Int}:fF b a= - fF a b:=by
 unfold fF;split<;>split<;>first|omega|(split<;>omega)
theorem sF:∀{a b:List Int},dD b a= - dD a b
 |[],[]=>rfl
 |[],_::_=>rfl
 |_::_,[]=>rfl
 |a::x,b::y=>by
  rw[dD,dD,sG]
  by_cases h:fF a b=0
  ·rw[if_neg (by omega),if_neg (by omega),sF]
  ·rw[if_pos (by omega),if_pos h]
theorem Az {a b:List Int}:oL b a= - oL a b:=by
 unfold oL
 rw[sG (a:=a.length)]
 by_cases h:fF a.length b.length=0
 ·rw[if_neg (by omega),if_neg (by omega),sF]
 ·rw[if_pos (by omega),if_pos h]
theorem DY:∀{a b:List Int},dD a b=0→a=b
 |[],[],_=>rfl
 |[],_::_,h=>by simp[dD]at h
 |_::_,[],h=>by simp[dD]at h
 |a::x,b::y,h=>by
  rw[dD]at h
  by_cases e:fF a b=0
  ·rw[if_neg (by omega)]at h;rw[cmpI_0.1 e,DY h]
  ·rw[if_pos e]at h;exact absurd h e
theorem Oc {a b:List Int} (h:oL a b=0):a=b:=by
 unfold oL at h
 by_cases e:fF a.length b.length=0
 ·rw[if_neg (by omega)]at h;exact DY h
 ·rw[if_pos e]at h;exact absurd h e
theorem sE:∀{a:List Int},dD a a=0
 |[]=>rfl
 |a::x=>by rw[dD,if_neg (fun h=>h (cmpI_0.2 rfl))];exact sE
theorem cmpI_lt_iff {a b:Int}:fF a b<0↔a<b:=by unfold fF;split;omega;split<;>omega
theorem qW:∀{a b c:List Int},dD a b<0→dD b c<0→dD a c<0
 |[],[],_,h,_=>by simp[dD]at h
 |[],_::_,[],_,h=>by simp[dD]at h
 |[],_::_,_::_,_,_=>by simp[dD]
 |_::_,[],_,h,_=>by simp[dD]at h
 |_::_,_::_,[],_,h=>by simp[dD]at h
 |a::x,b::y,c::z,h1,h2=>by
  rw[dD]at h1 h2 ⊢
  by_cases e1:fF a b=0
  ·rw[if_neg (by omega)]at h1
   rw[cmpI_0.1 e1]
   by_cases e2:fF b c=0
   ·rw[if_neg (by omega)]at h2 ⊢;exact qW h1 h2
   ·rw[if_pos e2]at h2 ⊢;exact h2
  ·rw[if_pos e1]at h1
   have g1:=cmpI_lt_iff.1 h1
   by_cases e2:fF b c=0
   ·have:=cmpI_0.1 e2;subst this;rw[if_pos e1];exact h1
   ·rw[if_pos e2]at h2
    have g2:=cmpI_lt_iff.1 h2
    have g3:fF a c<0:=cmpI_lt_iff.2 (by omega)
    rw[if_pos (by omega)];exact g3
theorem yO {a b:List Int}:cP a b=true↔a.length<b.length∨(a.length=b.length∧dD a b<0):=by
 rw[cP,decide_eq_true_eq,oL]
 by_cases e:fF a.length b.length=0
 ·rw[if_neg (by omega)];have:=cmpI_0.1 e;omega
 ·rw[if_pos e,cmpI_lt_iff]
  have:¬(a.length:Int)=b.length:=fun h=>e (cmpI_0.2 h)
  omega
theorem kY {a b c:List Int} (h1:cP a b=true) (h2:cP b c=true):cP a c=true:=by
 rw[yO]at*
 rcases h1 with h1|⟨h1,g1⟩<;>rcases h2 with h2|⟨h2,g2⟩
 ·left;omega
 ·left;omega
 ·left;omega
 ·exact .inr ⟨by omega,qW g1 g2⟩
theorem pi {a:List Int}:cP a a=false:=by
 rw[Bool.eq_false_iff];intro h;rw[yO]at h
 rcases h with h|⟨_,h⟩
 ·omega
 ·rw[sE]at h;omega
theorem ph {a b:List Int} (h:cP a b=false) (hne:a≠b):cP b a=true:=by
 have h1:¬oL a b<0:=by simpa[cP]using h
 have h2:¬oL a b=0:=fun e=>hne (Oc e)
 have h3:=Az (a:=a) (b:=b)
 simp[cP];omega
def Et (a b:List Int):Prop:=cP b a=false
theorem zV {a b c:List Int} (h1:Et a b) (h2:Et b c):Et a c:=by
 unfold Et at*
 rw[Bool.eq_false_iff];intro h
 by_cases e:a=b
 ·subst e;rw[h]at h2;cases h2
 ·have:=ph h1 (Ne.symm e)
  rw[kY h this]at h2;cases h2
theorem yN {a b:List Int} (h:cP a b=true):Et a b:=by
 unfold Et;rw[Bool.eq_false_iff];intro h2
 have:=kY h h2;rw[pi]at this;cases this
def sK (L:List (List Int)) (p:List Int):Nat→Nat
 |0=>0
 |k+1=>if cP p (L.getD k [])=true then sK L p k else k+1
theorem jw {L:List (List Int)} {p:List Int}:∀{k:Nat},sK L p k≤k∧(∀i,sK L p k≤i→i<k→cP p (L.getD i [])=true)∧(sK L p k=0∨cP p (L.getD (sK L p k - 1) [])=false)
 |0=>⟨Nat.le_refl _,fun i _ h=>absurd h (by omega),.inl rfl⟩
 |k+1=>by
  rw[sK]
  by_cases e:cP p (L.getD k [])=true
  ·rw[if_pos e]
   obtain⟨h1,h2,h3⟩:=jw (L:=L) (p:=p) (k:=k)
   refine⟨by omega,fun i hi hk=> ?_,h3⟩
   by_cases q:i=k
   ·subst q;exact e
   ·exact h2 i hi (by omega)
  ·rw[if_neg e]
   refine⟨Nat.le_refl _,fun i hi hk=>by omega,.inr ?_⟩
   simpa using e
def gN (L:List (List Int)) (p:List Int) (j:Nat):List (List Int):=L.take j++p::L.drop j
def nD (L:List (List Int)) (p:List Int):List (List Int):=gN L p (sK L p L.length)
def fL (L:List (List Int)) (p:List Int):List (List Int):=if 0<sK L p L.length∧L.getD (sK L p L.length - 1) []=p then L else nD L p
def bd (L:List (List Int)):List (List Int):=L.foldl nD []
def ov (L:List (List Int)):List (List Int):=L.foldl fL []
theorem cU {L:List (List Int)} {p:List Int} {j:Nat}:(gN L p j).length=L.length+1:=by
 unfold gN;simp;omega
theorem u9 {L:List (List Int)} {p x:List Int} {j:Nat}:x∈gN L p j↔x=p∨x∈L:=by
 unfold gN
 rw[List.mem_append,List.mem_cons]
 have:x∈L↔x∈L.take j∨x∈L.drop j:=by rw[←List.mem_append,List.take_append_drop]
 rw[this];constructor
 ·rintro(h|h|h)<;>simp[h]
 ·rintro(h|h|h)<;>simp[h]
def WS (L:List (List Int)):Prop:=L.Pairwise Et
def SS (L:List (List Int)):Prop:=L.Pairwise fun a b=>cP a b=true
theorem tl {R:List Int→List Int→Prop} {L:List (List Int)} (h:L.Pairwise R) {i j:Nat} (hij:i<j) (hj:j<L.length):R (L.getD i []) (L.getD j []):=by
 rw[List.pairwise_iff_getElem]at h
 have:=h i j (by omega) hj hij
 rw[List.getD_eq_getElem?_getD,List.getD_eq_getElem?_getD,List.getElem?_eq_getElem (by omega),List.getElem?_eq_getElem hj]
 exact this
theorem Bh {L:List (List Int)} {j:Nat} {x:List Int} (h:x∈L.take j):∃i,i<j∧i<L.length∧L.getD i []=x:=by
 obtain⟨i,hi,e⟩:=List.getElem_of_mem h
 simp only[List.length_take]at hi
 refine⟨i,by omega,by omega, ?_⟩
 rw[List.getElem_take]at e
 rw[List.getD_eq_getElem?_getD,List.getElem?_eq_getElem (by omega)];exact e
theorem DN {L:List (List Int)} {j:Nat} {x:List Int} (h:x∈L.drop j):∃i,j≤i∧i<L.length∧L.getD i []=x:=by
 obtain⟨i,hi,e⟩:=List.getElem_of_mem h
 simp only[List.length_drop]at hi
 refine⟨j+i,by omega,by omega, ?_⟩
 rw[List.getElem_drop]at e
 rw[List.getD_eq_getElem?_getD,List.getElem?_eq_getElem (by omega)];exact e
theorem ym {R:List Int→List Int→Prop} {L:List (List Int)} {p:List Int} {j:Nat} (h:L.Pairwise R) (h1:∀i,i<j→i<L.length→R (L.getD i []) p) (h2:∀i,j≤i→i<L.length→R p (L.getD i [])):(gN L p j).Pairwise R:=by
 unfold gN
 have h3:=h
 rw[←List.take_append_drop j L,List.pairwise_append]at h3
 rw[List.pairwise_append,List.pairwise_cons]
 refine⟨h3.1,⟨fun x hx=> ?_,h3.2.1⟩,fun x hx y hy=> ?_⟩
 ·obtain⟨i,q1,q2,rfl⟩:=DN hx;exact h2 i q1 q2
 ·rcases List.mem_cons.1 hy with rfl|hy
  ·obtain⟨i,q1,q2,rfl⟩:=Bh hx;exact h1 i q1 q2
  ·exact h3.2.2 x hx y hy
theorem Eg {L:List (List Int)} {p:List Int} (h:L.Pairwise Et) {i:Nat} (hi:i<sK L p L.length):Et (L.getD i []) p:=by
 obtain⟨h1,h2,h3⟩:=jw (L:=L) (p:=p) (k:=L.length)
 rcases h3 with h3|h3
 ·omega
 ·by_cases e:i=sK L p L.length - 1
  ·rw[e];exact h3
  ·exact zV (tl h (i:=i) (j:=sK L p L.length - 1) (by omega) (by omega)) h3
theorem GJ {L:List (List Int)} {p:List Int} (h:WS L):WS (nD L p):=
 ym h (fun _ hi _=>Eg h hi) fun i hi hl=>yN ((jw (L:=L) (p:=p) (k:=L.length)).2.1 i hi hl)
theorem Jj {L:List (List Int)} (h:SS L):WS L:=h.imp yN
theorem Fo {L:List (List Int)} {p:List Int} (h:SS L):SS (fL L p):=by
 unfold fL
 split
 ·exact h
 ·rename_i hn
  refine ym h (fun i hi hl=> ?_) fun i hi hl=>(jw (L:=L) (p:=p) (k:=L.length)).2.1 i hi hl
  have h0:=Eg (Jj h) hi
  have h1:=(jw (L:=L) (p:=p) (k:=L.length)).1
  refine ph h0 fun e=>hn ⟨by omega, ?_⟩
  by_cases q:i=sK L p L.length - 1
  ·rw[←q];exact e.symm
  ·have h2:=tl h (i:=i) (j:=sK L p L.length - 1) (by omega) (by omega)
   have h3:=Eg (Jj h) (L:=L) (p:=p) (i:=sK L p L.length - 1) (by omega)
   rw[←e]at h2
   unfold Et at h3;rw[h2]at h3;cases h3
theorem putP_mem {L:List (List Int)} {p x:List Int}:x∈fL L p↔x=p∨x∈L:=by
 unfold fL
 split
 ·rename_i h
  constructor
  ·exact .inr
  ·rintro(rfl|h2)
   ·rw[←h.2];exact ar (by have:=(jw (L:=L) (p:=x) (k:=L.length)).1;omega)
   ·exact h2
 ·exact u9
theorem C6 (L:List (List Int)):∀{A:List (List Int)},WS A→WS (L.foldl nD A):=by
 induction L with
 |nil=>exact fun h=>h
 |cons x l ih=>exact fun h=>ih (GJ h)
theorem nz (L:List (List Int)):∀{A:List (List Int)} {x:List Int},x∈L.foldl nD A↔x∈L∨x∈A:=by
 induction L with
 |nil=>simp
 |cons y l ih=>intro A x;rw[List.foldl_cons,ih];unfold nD;rw[u9,List.mem_cons,or_left_comm,or_assoc]
theorem Ko (L:List (List Int)):∀{A:List (List Int)},SS A→SS (L.foldl fL A):=by
 induction L with
 |nil=>exact fun h=>h
 |cons x l ih=>exact fun h=>ih (Fo h)
theorem xU (L:List (List Int)):∀{A:List (List Int)} {x:List Int},x∈L.foldl fL A↔x∈L∨x∈A:=by
 induction L with
 |nil=>simp
 |cons y l ih=>intro A x;rw[List.foldl_cons,ih,putP_mem,List.mem_cons,or_left_comm,or_assoc]
theorem u7 {L:List (List Int)} {p:List Int}:(nD L p).length=L.length+1:=cU
theorem r9 (L:List (List Int)):∀{A:List (List Int)},(L.foldl nD A).length=L.length+A.length:=by
 induction L with
 |nil=>simp
 |cons y l ih=>intro A;rw[List.foldl_cons,ih,u7,List.length_cons];omega
theorem Fm (L:List (List Int)):∀{A:List (List Int)},(L.foldl fL A).length≤L.length+A.length:=by
 induction L with
 |nil=>simp
 |cons y l ih=>
  intro A;rw[List.foldl_cons]
  have h:=ih (A:=fL A y)
  have:(fL A y).length≤A.length+1:=by unfold fL;split;omega;rw[u7];omega
  rw[List.length_cons];omega
def fM (L:List (List Int)):Nat→List (List Int)
 |0=>[]
 |j+1=>fM L j++if 0<j∧L.getD j []=L.getD (j - 1) []then[]else[L.getD j []]
theorem cptF_mem {L:List (List Int)} {x:List Int}:∀{j:Nat},x∈fM L j↔∃i,i<j∧L.getD i []=x
 |0=>by simp[fM]
 |j+1=>by
  rw[fM,List.mem_append,cptF_mem]
  constructor
  ·rintro(⟨i,h1,h2⟩|h)
   ·exact⟨i,by omega,h2⟩
   ·split at h
    ·cases h
    ·simp at h;exact⟨j,by omega,h.symm⟩
  ·rintro⟨i,h1,h2⟩
   by_cases e:i=j
   ·subst e
    by_cases q:0<i∧L.getD i []=L.getD (i - 1) []
    ·left;exact⟨i - 1,by omega,by rw[←q.2];exact h2⟩
    ·right;rw[if_neg q,h2];exact List.mem_singleton.2 rfl
   ·left;exact⟨i,by omega,h2⟩
theorem tX {L:List (List Int)} (h:WS L):∀{j:Nat},j≤L.length→SS (fM L j)
 |0,_=>List.Pairwise.nil
 |j+1,hj=>by
  rw[fM]
  by_cases q:0<j∧L.getD j []=L.getD (j - 1) []
  ·rw[if_pos q,List.append_nil];exact tX h (by omega)
  ·rw[if_neg q]
   refine List.pairwise_append.2 ⟨tX h (by omega),List.pairwise_singleton _ _,fun a ha b hb=> ?_⟩
   rw[List.mem_singleton]at hb;subst hb
   obtain⟨i,h1,rfl⟩:=cptF_mem.1 ha
   have h2:cP (L.getD (j - 1) []) (L.getD j [])=true:=ph (tl h (i:=j - 1) (j:=j) (by omega) (by omega)) (fun e=>q ⟨by omega,e⟩)
   by_cases e:i=j - 1
   ·rw[e];exact h2
   ·have h3:=tl h (i:=i) (j:=j - 1) (by omega) (by omega)
    by_cases e2:L.getD i []=L.getD (j - 1) []
    ·rw[e2];exact h2
    ·exact kY (ph h3 (Ne.symm e2)) h2
theorem Bw:∀{A B:List (List Int)},SS A→SS B→(∀x,x∈A↔x∈B)→A=B
 |[],[],_,_,_=>rfl
 |[],b::B,_,_,h=>by have:=(h b).2 (by simp);cases this
 |a::A,[],_,_,h=>by have:=(h a).1 (by simp);cases this
 |a::A,b::B,ha,hb,h=>by
  have pa:=List.pairwise_cons.1 ha
  have pb:=List.pairwise_cons.1 hb
  have hn:∀{x y:List Int},cP x y=true→cP y x=true→False:=fun h1 h2=>by
   have:=kY h1 h2;rw[pi]at this;cases this
  have e:a=b:=by
   rcases List.mem_cons.1 ((h a).1 (by simp))with q|q
   ·exact q
   ·rcases List.mem_cons.1 ((h b).2 (by simp))with q2|q2
    ·exact q2.symm
    ·exact(hn (pb.1 _ q) (pa.1 _ q2)).elim
  subst e
  rw[Bw pa.2 pb.2 fun x=> ?_]
  constructor
  ·intro hx
   rcases List.mem_cons.1 ((h x).1 (by simp[hx]))with rfl|q
   ·have:=pa.1 _ hx;rw[pi]at this;cases this
   ·exact q
  ·intro hx
   rcases List.mem_cons.1 ((h x).2 (by simp[hx]))with rfl|q
   ·have:=pb.1 _ hx;rw[pi]at this;cases this
   ·exact q
theorem KR (L:List (List Int)):fM (bd L) (bd L).length=ov L:=by
 refine Bw (tX (C6 L List.Pairwise.nil) (Nat.le_refl _)) (Ko L List.Pairwise.nil) fun x=> ?_
 rw[cptF_mem,ov,xU]
 have h:x∈bd L↔x∈L:=by unfold bd;rw[nz];simp
 constructor
 ·rintro⟨i,h1,rfl⟩;exact .inl (h.1 (ar h1))
 ·rintro(h1|h1)
  ·have:=h.2 h1
   obtain⟨i,hi,e⟩:=List.getElem_of_mem this
   exact⟨i,hi,by rw[List.getD_eq_getElem?_getD,List.getElem?_eq_getElem hi];exact e⟩
  ·cases h1
theorem kH {L:List (List Int)} {p:List Int}:∀{k j:Nat},j≤k→(∀q,j≤q→q<k→cP p (L.getD q [])=true)→(0<j→cP p (L.getD (j - 1) [])=false)→sK L p k=j
 |0,j,h,_,_=>by rw[sK];omega
 |k+1,j,h,h1,h2=>by
  rw[sK]
  by_cases e:j=k+1
  ·subst e
   have:=h2 (by omega)
   rw[Nat.add_sub_cancel]at this
   rw[this];rfl
  ·rw[if_pos (h1 k (by omega) (by omega))]
   exact kH (by omega) (fun q a b=>h1 q a (by omega)) h2
theorem nN {α:Type} {A B:List α} {d:α} {i:Nat} (h:i<A.length):(A++B).getD i d=A.getD i d:=by
 rw[List.getD_eq_getElem?_getD,List.getD_eq_getElem?_getD,List.getElem?_append_left h]
theorem GL {L:List (List Int)} {p:List Int} {j:Nat} (h:j≤L.length):(gN L p j).getD j []=p:=by
 unfold gN
 rw[List.getD_eq_getElem?_getD,List.getElem?_append_right (by simp;omega),List.length_take,Nat.min_eq_left h,Nat.sub_self];rfl
theorem GK {L:List (List Int)} {p:List Int} {j i:Nat} (h:j≤L.length) (hi:i<j):(gN L p j).getD i []=L.getD i []:=by
 unfold gN
 rw[nN (by simp;omega),List.getD_eq_getElem?_getD,List.getD_eq_getElem?_getD,List.getElem?_take_of_lt hi]
theorem z8 {L:List (List Int)} {p:List Int} {j:Nat} (h0:0<j) (h:j≤L.length) {R:List (List Int)}:((gN L p j++R).set j (L.getD (j - 1) [])).set (j - 1) p=gN L p (j - 1)++R:=by
 obtain⟨i,rfl⟩:∃i,j=i+1:=⟨j - 1,by omega⟩
 rw[Nat.add_sub_cancel]
 apply List.ext_getElem?;intro q
 have l1:(gN L p (i+1)++R).length=L.length+1+R.length:=by rw[List.length_append,cU]
 rw[List.getElem?_set,List.getElem?_set,List.length_set,l1]
 have hd:∀{a:Nat},a<L.length→L[a]? =some (L.getD a []):=fun {a} ha=>by rw[List.getD_eq_getElem?_getD,List.getElem?_eq_getElem ha];rfl
 have key:∀{k q:Nat},k≤L.length→q<L.length+1→(gN L p k)[q]? =if q<k then L[q]? else if q=k then some p else L[q - 1]? :=fun {k q} hk hq=>by
  unfold gN
  by_cases h1:q<k
  ·rw[if_pos h1,List.getElem?_append_left (by simp;omega),List.getElem?_take_of_lt h1]
  ·rw[if_neg h1,List.getElem?_append_right (by simp;omega),List.length_take,Nat.min_eq_left hk]
   by_cases h2:q=k
   ·rw[if_pos h2,h2,Nat.sub_self];rfl
   ·rw[if_neg h2,show q - k=(q - k - 1)+1 by omega,List.getElem?_cons_succ,List.getElem?_drop];congr 1;omega
 by_cases hq:q<L.length+1
 ·rw[List.getElem?_append_left (by rw[cU];exact hq),List.getElem?_append_left (by rw[cU];exact hq),key (by omega) hq,key (by omega) hq]
  by_cases e1:i=q
  ·subst e1;rw[if_pos rfl,if_pos (by omega),if_neg (by omega),if_pos rfl]
  ·rw[if_neg e1]
   by_cases e2:i+1=q
   ·subst e2;rw[if_pos rfl,if_pos (by omega),if_neg (by omega),if_neg (by omega),Nat.add_sub_cancel,hd (by omega)]
   ·rw[if_neg e2]
    by_cases e3:q<i
    ·rw[if_pos (by omega),if_pos e3]
    ·rw[if_neg (by omega),if_neg (by omega),if_neg e3,if_neg (by omega)]
 ·rw[if_neg (by omega),if_neg (by omega),List.getElem?_append_right (by rw[cU];omega),List.getElem?_append_right (by rw[cU];omega),cU,cU]
theorem ql {L:List (List Int)} {i:Nat} (h:i<L.length):bd (L.take (i+1))=nD (bd (L.take i)) (L.getD i []):=by
 rw[az (d:=[]) h];unfold bd;rw[List.foldl_append];rfl
theorem C7 {L:List (List Int)} {i:Nat} (h:i≤L.length):(bd (L.take i)).length=i:=by
 unfold bd;rw[r9,List.length_take,List.length_nil];omega
theorem Dc {L:List (List Int)} {p:List Int}:gN L p L.length=L++[p]:=by unfold gN;simp
theorem yi {L:List (List Int)}:bd (L.take 1)=L.take 1:=by
 cases L with
 |nil=>rfl
 |cons a l=>rfl
theorem zZ {L:List (List Int)} {i:Nat} {x:List Int} (h:x∈bd (L.take i)):x∈L:=by
 unfold bd at h
 rw[nz]at h
 rcases h with h|h
 ·exact List.mem_of_mem_take h
 ·cases h
end Go.Gl
namespace Go.Proofs
open Go.Shelf
def Tryz.lays129_ren:Go.Shelf.Ren:=⟨fun|129=>209|n=>n,fun|53=>122|3=>3|4=>4|46=>114|5=>5|9=>9|n=>n,fun|n=>n⟩
theorem Tryz.lays129:Go.Proofs.Lays.n129 Tryz.prog Tryz.lays129_ren:={
 mixed:=by kernel_rfl
 f129:=Tryz.func209.trans (congrArg some (by kernel_rfl))
 t3:=Tryz.underlying3
 a3:=Tryz.isAgg3
 z3:=Tryz.sizeOf3
 v3:=Tryz.zeroValue3
 t4:=Tryz.underlying4
 a4:=Tryz.isAgg4
 z4:=Tryz.sizeOf4
 v4:=Tryz.zeroValue4
 t5:=Tryz.underlying5
 a5:=Tryz.isAgg5
 z5:=Tryz.sizeOf5
 v5:=Tryz.zeroValue5
 t9:=Tryz.underlying9
 a9:=Tryz.isAgg9
 z9:=Tryz.sizeOf9
 v9:=Tryz.zeroValue9
 t46:=Tryz.underlying114
 a46:=Tryz.isAgg114
 z46:=Tryz.sizeOf114
 v46:=Tryz.zeroValue114
 t53:=Tryz.underlying122
 a53:=Tryz.isAgg122
 z53:=Tryz.sizeOf122
 v53:=Tryz.zeroValue122}
theorem Tryz.bits_Len64 (x:Int) (w:World) (h0:0≤x) (h1:x≤18446744073709551615):
  Calls Tryz.prog 209 #[.int .u64 x] w fun e w'=>e=.returned (.int .i64 (Lib.bitLen x.toNat))∧w'=w:=Any.bits_Len64 Tryz.lays129 x w h0 h1
def Tryz.lays112_ren:Go.Shelf.Ren:=⟨fun|112=>133|n=>n,fun|28=>22|3=>3|4=>4|0=>0|n=>n,fun|n=>n⟩
theorem Tryz.lays112:Go.Proofs.Lays.n112 Tryz.prog Tryz.lays112_ren:={
 mixed:=by kernel_rfl
 f112:=Tryz.func133.trans (congrArg some (by kernel_rfl))
 t0:=Tryz.underlying0
 a0:=Tryz.isAgg0
 z0:=Tryz.sizeOf0
 v0:=Tryz.zeroValue0
 t3:=Tryz.underlying3
 a3:=Tryz.isAgg3
 z3:=Tryz.sizeOf3
 v3:=Tryz.zeroValue3
 t4:=Tryz.underlying4
 a4:=Tryz.isAgg4
 z4:=Tryz.sizeOf4
 v4:=Tryz.zeroValue4
 t28:=Tryz.underlying22
 a28:=Tryz.isAgg22
 z28:=Tryz.sizeOf22
 v28:=Tryz.zeroValue22}
open Go.RowKit Go.Lib Go.Sort in
theorem Tryz.slices_Reverse_int (blk off cap:Nat) (zs:List Int) (w:World) (hH:Holds (Value.int .i64) w blk off zs.toArray) (hsz:zs.length≤9223372036854775807):
  Calls Tryz.prog 133 #[.slice (some ⟨blk,off,none⟩) zs.length cap] w fun e w'=>e=.returned (.tuple #[])∧∃n,w'=putRow (Value.int .i64) (Sort.ahead w n) blk off zs.reverse.toArray:=Any.slices_Reverse_int Tryz.lays112 blk off cap zs w hH hsz
open Go.RowKit Go.Lib Go.Sort in
theorem Tryz.slices_Reverse_int_empty (a:Option Addr) (cap:Nat) (w:World):
  Calls Tryz.prog 133 #[.slice a 0 cap] w fun e w'=>e=.returned (.tuple #[])∧w'=w:=Any.slices_Reverse_int_empty Tryz.lays112 a cap w
end Go.Proofs
namespace Go.Gl
open Go Go.Proofs
variable [Amb] [NoQ]
theorem t6 (n:Int) (h0:0≤n) (h1:n≤255):Fun Tryz.prog 209 [.int .u64 n] [.int .i64 (Lib.bitLen n.toNat:Int)]:=by
 refine Fun.of_plain Tryz.func209 rfl rfl rfl ?_
 intro w F G vs _ hv
 simp only[RepL]at hv
 obtain⟨a,vs1,rfl,ha,rfl⟩:=hv
 have ha:=wr ha
 subst ha
 exact(Tryz.bits_Len64 n w h0 (by omega)).mono fun e w' h=>⟨h.1,h.2▸Go.RowKit.Below.refl _ _⟩
theorem fg (Z:List (List Int)) (hl:Z.length≤12) (hz:∀l∈Z,l.length≤1048576):CallT Tryz.prog false 200 [.mu false (List.map (bt false) (Z)),.pv (.int .i64 (0)),.pv (.int .i64 ((Z.length:Int))),.pv (.fn 156 [] [])] [some (List.map (bt false) (bd Z)),none,none,none] []:=by
 refine fX aR [] Tryz.func200 ?_
 have cD1:=gY [false,false,false,false,false,false,false,false,false,false,false,false,false,false,true,false,false] [];have cD2:=gY [false,false,false,false,false,false,false,false,false,false,false,false,false,false,false,true,false,true] [(2,15),(3,15),(4,15)]
 refine ax trivial ?_
 all_goals try(apply ai;repeat' first|exact ah|apply aa|(apply ak;intro zb hc)|(apply aj;intro zb)|intro j')<;>try apply al
 refine an (fun ms1 S1=>∃(i:Nat),S1.e 0=.ref 0 0 (bd (Z.take i)++Z.drop i).length∧S1.h 0=.live true (List.map (bt false) (bd (Z.take i)++Z.drop i))∧0<S1.n∧S1.e 1=.p (.int .i64 (0))∧S1.e 2=.p (.int .i64 ((Z.length:Int)))∧S1.e 3=.p (.fn 156 [] [])∧S1.e 8=.p (.int .i64 (i))∧(i≤Z.length∨(Z.length=0∧i=1))∧(1≤i)∧ms1=Z.length - i) ((fun(i:Nat)=>Z.length - i) (1)) ?_ ⟨1,dC trivial ?_⟩
 all_goals try(apply ai;repeat' first|exact ah|apply aa|(apply ak;intro zb hc)|(apply aj;intro zb)|intro j')<;>try apply al
 rintro ms1 S1 ⟨i,h1_0,b1_0,l1_0,h1_1,h1_2,h1_3,h1_8,c1_0,c1_1,hm1⟩
 have n0:=aG (x:=0) (n:=S1.n)
 have fL1:=(aa h1_0 (aa b1_0 (aa h1_1 (aa h1_2 (aa h1_3 (aa h1_8 n0))))))
 ·by_cases hi:i<Z.length
  ·have e0:=C7 (L:=Z) (i:=i) (by omega)
   refine ax fL1 ?_
   all_goals try(apply ai;repeat' first|exact ah|apply aa|(apply ak;intro zb hc)|(apply aj;intro zb)|intro j')<;>try apply al
   refine an (fun ms2 S2=>∃(j:Nat),S2.e 0=.ref 0 0 (gN (bd (Z.take i)) (Z.getD i []) j++Z.drop (i+1)).length∧S2.h 0=.live true (List.map (bt false) (gN (bd (Z.take i)) (Z.getD i []) j++Z.drop (i+1)))∧0<S2.n∧S2.e 1=.p (.int .i64 (0))∧S2.e 2=.p (.int .i64 ((Z.length:Int)))∧S2.e 3=.p (.fn 156 [] [])∧S2.e 8=.p (.int .i64 (i))∧S2.e 9=.p (.int .i64 (j))∧(j≤i)∧(∀q,j≤q→q<i→cP (Z.getD i []) ((bd (Z.take i)).getD q [])=true)∧S1.n≤S2.n∧ms2=j) ((fun(j:Nat)=>j) (i)) ?_ ⟨i,dC fL1 ?_⟩
   all_goals try(apply ai;repeat' first|exact ah|apply aa|(apply ak;intro zb hc)|(apply aj;intro zb)|intro j')<;>try apply al
   rintro ms2 S2 ⟨j,h2_0,b2_0,l2_0,h2_1,h2_2,h2_3,h2_8,h2_9,c2_0,c2_1,u2_0,hm2⟩
   have n0:=aG (x:=0) (n:=S2.n)
   have fL2:=(aa h2_0 (aa b2_0 (aa h2_1 (aa h2_2 (aa h2_3 (aa h2_8 (aa h2_9 n0)))))))
   ·have e4:=cU (L:=bd (Z.take i)) (p:=Z.getD i []) (j:=j)
    have e1:(gN (bd (Z.take i)) (Z.getD i []) j++Z.drop (i+1)).getD j []=Z.getD i []:=by rw[nN (by omega),GL (by omega)]
    have e5:=hz (Z.getD i []) (ar hi)
    by_cases hj:0<j
    ·have e3:((j:Int) - 1).toNat=j - 1:=by omega
     have e2:(gN (bd (Z.take i)) (Z.getD i []) j++Z.drop (i+1)).getD (j - 1) []=(bd (Z.take i)).getD (j - 1) []:=by rw[nN (by omega),GK (by omega) (by omega)]
     have e6:=hz ((bd (Z.take i)).getD (j - 1) []) (zZ (ar (by omega)))
     have e7:=z8 (L:=bd (Z.take i)) (p:=Z.getD i []) (j:=j) hj (by omega) (R:=Z.drop (i+1))
     have cE1:= @gB
     refine ax (aa fL2 (aa @e1 (aa @e2 (aa @e3 @e7)))) ?_
     all_goals try(apply ai;repeat' first|exact ah|apply aa|(apply ak;intro zb hc)|(apply aj;intro zb)|intro j')<;>try apply al
     ·focus
       refine am ((fun(j:Nat)=>j) (j-1)) (dC fL2 ?_) ⟨j-1,dC fL2 ?_⟩
       all_goals try(apply ai;repeat' first|exact ah|apply aa|(apply ak;intro zb hc)|(apply aj;intro zb)|intro j')<;>try apply al
      all_goals try (intro q h1 h2;by_cases h3:q=j - 1)
      all_goals try (subst h3;exact decide_eq_true hc)
      all_goals try (exact c2_1 q (by omega) h2)
      rw[List.length_append,List.length_append,cU,cU]
     ·have e8:sK (bd (Z.take i)) (Z.getD i []) (bd (Z.take i)).length=j:=kH (by omega) (fun q a b=>c2_1 q a (by omega)) fun _=>decide_eq_false (by omega)
      have e9:gN (bd (Z.take i)) (Z.getD i []) j=bd (Z.take (i+1)):=by rw[ql hi,nD,e8]
      focus
       refine am ((fun(i:Nat)=>Z.length - i) (i+1)) (dC fL2 ?_) ⟨i+1,dC fL2 ?_⟩
       all_goals try(apply ai;repeat' first|exact ah|apply aa|(apply ak;intro zb hc)|(apply aj;intro zb)|intro j')<;>try apply al
      all_goals rw[e9]
    ·obtain rfl:j=0:=by omega
     have cE1:=trivial
     refine ax fL2 ?_
     all_goals try(apply ai;repeat' first|exact ah|apply aa|(apply ak;intro zb hc)|(apply aj;intro zb)|intro j')<;>try apply al
     have e8:sK (bd (Z.take i)) (Z.getD i []) (bd (Z.take i)).length=0:=kH (by omega) (fun q a b=>c2_1 q a (by omega)) fun h=>absurd h (by omega)
     have e9:gN (bd (Z.take i)) (Z.getD i []) 0=bd (Z.take (i+1)):=by rw[ql hi,nD,e8]
     focus
      refine am ((fun(i:Nat)=>Z.length - i) (i+1)) (dC fL2 ?_) ⟨i+1,dC fL2 ?_⟩
      all_goals try(apply ai;repeat' first|exact ah|apply aa|(apply ak;intro zb hc)|(apply aj;intro zb)|intro j')<;>try apply al
     all_goals rw[e9]
   ·rw[List.length_append,List.length_append,cU,e0,List.length_drop,List.length_drop];omega
   ·have e1:=Dc (L:=bd (Z.take i)) (p:=Z.getD i [])
    rw[e0]at e1
    rw[e1,List.append_assoc,qJ hi];rfl
  ·have e1:bd (Z.take i)++Z.drop i=bd Z:=by
    rcases c1_0 with h|⟨h,_⟩
    ·rw[List.take_of_length_le (by omega),List.drop_of_length_le (by omega),List.append_nil]
    ·rw[List.take_of_length_le (by omega),List.drop_of_length_le (by omega),List.append_nil]
   have cE1:=trivial
   refine ax (aa fL1 @e1) ?_
   all_goals try(apply ai;repeat' first|exact ah|apply aa|(apply ak;intro zb hc)|(apply aj;intro zb)|intro j')<;>try apply al
 ·rw[yi,List.take_append_drop]
 ·rw[yi,List.take_append_drop]
theorem oD (n:Int) (h0:0≤n) (h1:n≤255):Fun Tryz.prog 183 [(.int .u64 (n))] [(.int .i64 ((Lib.bitLen n.toNat:Int)))]:=by
 refine fO aR [2] Tryz.func183 ?_
 have cE1:= @t6
 refine ax trivial ?_
 all_goals try(apply ai;repeat' first|exact ah|apply aa|(apply ak;intro zb hc)|(apply aj;intro zb)|intro j')<;>try apply al
def pI:FuncId→List Bool:=fun f=>if f=200 then[true]else[]
theorem BO {f:FuncId}:pI f=if f=200 then[true]else[]:=_root_.id rfl
theorem yX:fJ pI=false∧ga pI=false∧f9 pI=false∧f8 pI=false∧gb pI=false:=⟨rfl,rfl,rfl,rfl,rfl⟩
attribute [go_sem] BO yX
theorem gH (Z:List (List Int)) (b:Int) (hl:Z.length≤12) (hz:∀l∈Z,l.length≤1048576):CallT Tryz.prog false 182 [.mu false (List.map (bt false) (Z)),.pv (.int .i64 (0)),.pv (.int .i64 ((Z.length:Int))),.pv (.int .i64 (b)),.pv (.fn 156 [] [])] [some (List.map (bt false) (bd Z)),none,none,none,none] []:=by
 refine fX pI [] Tryz.func182 ?_
 have cM1:= @fg;have cD1:=gY [false,false,false,false,false,false,false,false,false,false,false,false,false,true,false,false,false] []
 refine dE trivial ?_
 all_goals try(apply ai;repeat' first|exact ah|apply aa|(apply ak;intro zb hc)|(apply aj;intro zb)|intro j')<;>try apply al
 refine an (fun ms1 S1=>∃(u:Nat),S1.e 0=.ref 0 0 (Z).length∧S1.h 0=.live true (List.map (bt false) (Z))∧0<S1.n∧S1.e 1=.p (.int .i64 (0))∧S1.e 2=.p (.int .i64 ((Z.length:Int)))∧S1.e 3=.p (.int .i64 (b))∧S1.e 4=.p (.fn 156 [] [])∧S1.e 10=.p (.bool (true))∧S1.e 11=.p (.bool (true))∧ms1=u) ((fun(u:Nat)=>u) (0)) ?_ ⟨0,dC trivial ?_⟩
 all_goals try(apply ai;repeat' first|exact ah|apply aa|(apply ak;intro zb hc)|(apply aj;intro zb)|intro j')<;>try apply al
 rintro ms1 S1 ⟨u,h1_0,b1_0,l1_0,h1_1,h1_2,h1_3,h1_4,h1_10,h1_11,hm1⟩
 have n0:=aG (x:=0) (n:=S1.n)
 have fL1:=(aa h1_0 (aa b1_0 (aa h1_1 (aa h1_2 (aa h1_3 (aa h1_4 (aa h1_10 (aa h1_11 n0))))))))
 ·have e1:((Z.length:Int) - 0≤12)=True:=eq_true (by omega)
  refine ax (aa fL1 @e1) ?_
  all_goals try(apply ai;repeat' first|exact ah|apply aa|(apply ak;intro zb hc)|(apply aj;intro zb)|intro j')<;>try apply al
def pF:FuncId→List Bool:=fun f=>if f=182 then[true]else[]
theorem BM {f:FuncId}:pF f=if f=182 then[true]else[]:=_root_.id rfl
theorem yV:fJ pF=false∧ga pF=false∧f9 pF=false∧f8 pF=false∧gb pF=false:=⟨rfl,rfl,rfl,rfl,rfl⟩
attribute [go_sem] BM yV
theorem gK (Z:List (List Int)) (hl:Z.length≤12) (hz:∀l∈Z,l.length≤1048576):CallT Tryz.prog false 155 [.mu false (List.map (bt false) (Z)),.pv (.fn 156 [] [])] [some (List.map (bt false) (bd Z)),none] []:=by
 refine fX pF [] Tryz.func155 ?_
 have cE1:= @oD;have cM1:= @gH
 have u3:(Tryz.prog.underlying 3).isSome=true:=by rw[Tryz.underlying3];rfl
 refine ax @u3 ?_
 all_goals try(apply ai;repeat' first|exact ah|apply aa|(apply ak;intro zb hc)|(apply aj;intro zb)|intro j')<;>try apply al
 ·show(0:Int)≤_∧_≤(18446744073709551615:Int);omega
theorem Bf {L D:List (List Int)} {p:List Int} {j:Nat} (h:j≤L.length):List.take (j+1) (L.take j++p::D)=L.take j++[p]:=by
 rw[List.take_append,List.take_of_length_le (by simp;omega),List.length_take,Nat.min_eq_left h,Nat.add_sub_cancel_left];rfl
theorem ni {L:List (List Int)} {p:List Int} {j:Nat} (h1:j≤L.length) (h2:∀q,j≤q→q<L.length→cP p (L.getD q [])=true) (h3:0<j→cP p (L.getD (j - 1) [])=false) (h4:0<j→¬L.getD (j - 1) []=p):fL L p=L.take j++p::L.drop j:=by
 have e:=kH h1 h2 h3
 rw[fL,nD,e,if_neg fun h=>h4 h.1 h.2];rfl
theorem wt {L:List (List Int)} {p:List Int} {j:Nat} (h1:j≤L.length) (h2:∀q,j≤q→q<L.length→cP p (L.getD q [])=true) (h3:0<j→cP p (L.getD (j - 1) [])=false) (h4:0<j) (h5:L.getD (j - 1) []=p):fL L p=L:=by
 have e:=kH h1 h2 h3
 rw[fL,e,if_pos ⟨h4,h5⟩]
theorem xx {L:List (List Int)} {p:List Int} {j:Nat} (h2:∀q,j≤q→q<L.length→cP p (L.getD q [])=true) (h3:cP p (L.getD (j - 1) [])=true):∀q,j - 1≤q→q<L.length→cP p (L.getD q [])=true:=fun q a b=>by
 by_cases e:q=j - 1
 ·rw[e];exact h3
 ·exact h2 q (by omega) b
theorem gD {m1:Bool} (L:List (List Int)) (p:List Int) (hL:L.length≤1000000000) (hl:∀l∈L,l.length≤1048576) (hp:p.length≤1048576):CallT Tryz.prog true 118 [.mu false (List.map (bt false) (L)),.pv (.sl (.lent m1) (List.map (PV.int .i64) (p)))] [none,none] [(.sl .own (List.map (bt false) (fL L p)))]:=by
 refine fX aR [4] Tryz.func118 ?_
 have cE1:= @jN;have cE2:= @bo;have cD1:=gY [false,false,false,true,false,true,true,true,false,true,false] [(0,3),(1,3),(2,3),(3,4),(0,5),(1,5),(2,5),(0,6),(1,6),(2,6),(3,8),(5,8),(6,8),(7,8)]
 refine lp trivial ?_
 all_goals try(apply ai;repeat' first|exact ah|apply aa|(apply ak;intro zb hc;repeat (have zc:=zb.1;replace zb:=zb.2))|(apply aj;intro zb)|intro j')<;>try apply al
 refine an (fun ms1 S1=>∃(j:Nat),S1.e 0=.ref 0 0 (L).length∧S1.h 0=.live true (List.map (bt false) (L))∧0<S1.n∧S1.e 1=.p (.sl (.lent m1) (List.map (PV.int .i64) (p)))∧S1.e 5=.p (.int .i64 (j))∧(j≤L.length)∧(∀q,j≤q→q<L.length→cP p (L.getD q [])=true)∧ms1=j) ((fun(j:Nat)=>j) (L.length)) ?_ ⟨L.length,dC trivial ?_⟩
 all_goals try(apply ai;repeat' first|exact ah|apply aa|(apply ak;intro zb hc;repeat (have zc:=zb.1;replace zb:=zb.2))|(apply aj;intro zb)|intro j')<;>try apply al
 rintro ms1 S1 ⟨j,h1_0,b1_0,l1_0,h1_1,h1_5,c1_0,c1_1,hm1⟩
 have n0:=aG (x:=0) (n:=S1.n)
 have fL1:=(aa h1_0 (aa b1_0 (aa h1_1 (aa h1_5 n0))))
 ·have e1:((j:Int) - 1).toNat=j - 1:=by omega
  have e3:List.take (L.length - j) (List.drop j L)=L.drop j:=List.take_of_length_le (by simp)
  by_cases hj:0<j
  ·have e2:=hl (L.getD (j - 1) []) (ar (by omega))
   have gg:((0:Int)<(j:Int))=True:=eq_true (by omega)
   by_cases h0:j=L.length
   ·have h0':=h0
    subst h0'
    have e4:List.drop L.length L=[]:=List.drop_length
    have e5:List.take L.length L=L:=List.take_length
    have f1:(L.length+1=(L++[p]).length)=True:=eq_true (by simp)
    refine lp (aa fL1 (aa @e1 (aa @e3 (aa @e4 (aa @e5 (aa @f1 @gg)))))) ?_
    all_goals try(apply ai;repeat' first|exact ah|apply aa|(apply ak;intro zb hc;repeat (have zc:=zb.1;replace zb:=zb.2))|(apply aj;intro zb)|intro j')<;>try apply al
    ·focus
      refine am ((fun(j:Nat)=>j) (L.length - 1)) (dC fL1 ?_) ⟨L.length - 1,dC fL1 ?_⟩
      all_goals try(apply ai;repeat' first|exact ah|apply aa|(apply ak;intro zb hc;repeat (have zc:=zb.1;replace zb:=zb.2))|(apply aj;intro zb)|intro j')<;>try apply al
     exact xx c1_1 hc
    ·exact(wt (Nat.le_refl _) c1_1 (fun _=>by assumption) hj hc).symm
    ·rw[ni (Nat.le_refl _) c1_1 (fun _=>by assumption) (fun _=>by assumption),List.take_of_length_le (by simp)];simp
   ·have f0:(j=L.length)=False:=eq_false h0
    have f1:(j+1≤L.length)=True:=eq_true (by omega)
    have f2:(List.take j L++p::List.drop (j+1) L).length=L.length:=by simp;omega
    have f3:(List.drop j L).length=L.length - j:=by simp
    by_cases h1:j+1=L.length
    ·have f4:(j+1=L.length)=True:=eq_true h1
     refine lp (aa fL1 (aa @e1 (aa @e3 (aa @f0 (aa @f1 (aa @f2 (aa @f3 (aa @f4 @gg)))))))) ?_
     all_goals try(apply ai;repeat' first|exact ah|apply aa|(apply ak;intro zb hc;repeat (have zc:=zb.1;replace zb:=zb.2))|(apply aj;intro zb)|intro j')<;>try apply al
     ·focus
       refine am ((fun(j:Nat)=>j) (j - 1)) (dC fL1 ?_) ⟨j - 1,dC fL1 ?_⟩
       all_goals try(apply ai;repeat' first|exact ah|apply aa|(apply ak;intro zb hc;repeat (have zc:=zb.1;replace zb:=zb.2))|(apply aj;intro zb)|intro j')<;>try apply al
      exact xx c1_1 hc
     ·exact(wt c1_0 c1_1 (fun _=>by assumption) hj hc).symm
     ·rw[ni c1_0 c1_1 (fun _=>by assumption) (fun _=>by assumption),List.drop_of_length_le (i:=j+1) (by omega),List.nil_append,List.take_of_length_le (by simp;omega)]
    ·have f4:(j+1=L.length)=False:=eq_false h1
     have f5:(j+(1+(L.length - j))≤L.length)=False:=eq_false (by omega)
     refine lp (aa fL1 (aa @e1 (aa @e3 (aa @f0 (aa @f1 (aa @f2 (aa @f3 (aa @f4 (aa @f5 @gg))))))))) ?_
     all_goals try(apply ai;repeat' first|exact ah|apply aa|(apply ak;intro zb hc;repeat (have zc:=zb.1;replace zb:=zb.2))|(apply aj;intro zb)|intro j')<;>try apply al
     ·focus
       refine am ((fun(j:Nat)=>j) (j - 1)) (dC fL1 ?_) ⟨j - 1,dC fL1 ?_⟩
       all_goals try(apply ai;repeat' first|exact ah|apply aa|(apply ak;intro zb hc;repeat (have zc:=zb.1;replace zb:=zb.2))|(apply aj;intro zb)|intro j')<;>try apply al
      exact xx c1_1 hc
     ·exact(wt c1_0 c1_1 (fun _=>by assumption) hj hc).symm
     ·rw[ni c1_0 c1_1 (fun _=>by assumption) (fun _=>by assumption),Bf (by omega),List.take_of_length_le (by simp;omega),List.append_assoc];rfl
  ·have gg:((0:Int)<(j:Int))=False:=eq_false (by omega)
   by_cases h0:j=L.length
   ·have h0':=h0
    subst h0'
    have e4:List.drop L.length L=[]:=List.drop_length
    have e5:List.take L.length L=L:=List.take_length
    have f1:(L.length+1=(L++[p]).length)=True:=eq_true (by simp)
    refine lp (aa fL1 (aa @e1 (aa @e3 (aa @e4 (aa @e5 (aa @f1 @gg)))))) ?_
    all_goals try(apply ai;repeat' first|exact ah|apply aa|(apply ak;intro zb hc;repeat (have zc:=zb.1;replace zb:=zb.2))|(apply aj;intro zb)|intro j')<;>try apply al
    rw[ni (Nat.le_refl _) c1_1 (fun h=>absurd h hj) (fun h=>absurd h hj),List.take_of_length_le (by simp)];simp
   ·have f0:(j=L.length)=False:=eq_false h0
    have f1:(j+1≤L.length)=True:=eq_true (by omega)
    have f2:(List.take j L++p::List.drop (j+1) L).length=L.length:=by simp;omega
    have f3:(List.drop j L).length=L.length - j:=by simp
    by_cases h1:j+1=L.length
    ·have f4:(j+1=L.length)=True:=eq_true h1
     refine lp (aa fL1 (aa @e1 (aa @e3 (aa @f0 (aa @f1 (aa @f2 (aa @f3 (aa @f4 @gg)))))))) ?_
     all_goals try(apply ai;repeat' first|exact ah|apply aa|(apply ak;intro zb hc;repeat (have zc:=zb.1;replace zb:=zb.2))|(apply aj;intro zb)|intro j')<;>try apply al
     rw[ni c1_0 c1_1 (fun h=>absurd h hj) (fun h=>absurd h hj),List.drop_of_length_le (i:=j+1) (by omega),List.nil_append,List.take_of_length_le (by simp;omega)]
    ·have f4:(j+1=L.length)=False:=eq_false h1
     have f5:(j+(1+(L.length - j))≤L.length)=False:=eq_false (by omega)
     refine lp (aa fL1 (aa @e1 (aa @e3 (aa @f0 (aa @f1 (aa @f2 (aa @f3 (aa @f4 (aa @f5 @gg))))))))) ?_
     all_goals try(apply ai;repeat' first|exact ah|apply aa|(apply ak;intro zb hc;repeat (have zc:=zb.1;replace zb:=zb.2))|(apply aj;intro zb)|intro j')<;>try apply al
     rw[ni c1_0 c1_1 (fun h=>absurd h hj) (fun h=>absurd h hj),Bf (by omega),List.take_of_length_le (by simp;omega),List.append_assoc];rfl
theorem qm {L:List (List Int)}:(bd L).length=L.length:=by unfold bd;rw[r9];simp
theorem isortL_mem {L:List (List Int)} {x:List Int}:x∈bd L↔x∈L:=by unfold bd;rw[nz];simp
theorem uz {L:List (List Int)} {n:Nat} (h:∀l∈L,l.length≤n):∀l∈ov L,l.length≤n:=fun l hl=>by
 rw[ov,xU]at hl
 rcases hl with hl|hl
 ·exact h l hl
 ·cases hl
theorem uB {L:List (List Int)}:(ov L).length≤L.length:=by have:=Fm L (A:=[]);rw[List.length_nil,Nat.add_zero]at this;exact this
theorem zm {f:Nat→List Int} {k:Nat}:ov ((List.range (k+1)).map f)=fL (ov ((List.range k).map f)) (f k):=by
 rw[List.range_succ,List.map_append,ov,List.foldl_append];rfl
theorem ll {p:List Int} (h:ae p=true):p.length≤8∧aU p=true:=by simpa[ae]using h
theorem kX {L:List (List Int)}:∀{j:Nat},j≤L.length→(∀i,0<i→i<j→L.getD i []≠L.getD (i - 1) [])→fM L j=L.take j
 |0,_,_=>by simp[fM]
 |j+1,h,h1=>by
  rw[fM,kX (by omega) fun i a b=>h1 i a (by omega),if_neg (fun q=>h1 j q.1 (by omega) q.2),←az (by omega)]
theorem fU (Z:List (List Int)) (hl:Z.length≤1099511627776) (hz:∀l∈Z,l.length≤1099511627776):CallT Tryz.prog true 157 [.mu false (List.map (bt false) (Z)),.pv (.fn 144 [] [])] [none,none] [(.sl .own (List.map (bt false) (fM Z Z.length)))]:=by
 refine fX aR [4] Tryz.func157 ?_
 have cD1:=gY [false,false,false,false,false,false,false,false,false,false,true] [];have cD2:=gY [false,false,false,false,false,false,false,false,false,false,true,false] []
 have e0:Z.length<2→fM Z Z.length=Z:=fun h=>by
  rw[kX (Nat.le_refl _) (fun i a b=>by omega),List.take_length]
 refine lp trivial ?_
 all_goals try(apply ai;repeat' first|exact ah|apply aa|(apply ak;intro zb hc)|(apply aj;intro zb)|intro j')<;>try apply al
 ·exact(e0 (by omega)).symm
 refine an (fun ms1 S1=>∃(k:Nat),S1.e 0=.ref 0 0 (Z).length∧S1.h 0=.live true (List.map (bt false) (Z))∧0<S1.n∧S1.e 1=.p (.fn 144 [] [])∧S1.e 5=.p (.int .i64 (k))∧(1≤k)∧(k≤Z.length)∧(∀i,0<i→i<k→Z.getD i []≠Z.getD (i - 1) [])∧ms1=Z.length - k) ((fun(k:Nat)=>Z.length - k) (1)) ?_ ⟨1,dC trivial ?_⟩
 all_goals try(apply ai;repeat' first|exact ah|apply aa|(apply ak;intro zb hc)|(apply aj;intro zb)|intro j')<;>try apply al
 rintro ms1 S1 ⟨k,h1_0,b1_0,l1_0,h1_1,h1_5,c1_0,c1_1,c1_2,hm1⟩
 have n0:=aG (x:=0) (n:=S1.n)
 have fL1:=(aa h1_0 (aa b1_0 (aa h1_1 (aa h1_5 n0))))
 ·by_cases hk:k<Z.length
  ·have e1:((k:Int) - 1).toNat=k - 1:=by omega
   have e2:=hz (Z.getD k []) (ar hk)
   have e3:=hz (Z.getD (k - 1) []) (ar (by omega))
   have cE1:= @br
   refine lp (aa fL1 @e1) ?_
   all_goals try(apply ai;repeat' first|exact ah|apply aa|(apply ak;intro zb hc)|(apply aj;intro zb)|intro j')<;>try apply al
   rotate_left
   ·focus
     refine am ((fun(k:Nat)=>Z.length - k) (k+1)) (dC fL1 ?_) ⟨k+1,dC fL1 ?_⟩
     all_goals try(apply ai;repeat' first|exact ah|apply aa|(apply ak;intro zb hc)|(apply aj;intro zb)|intro j')<;>try apply al
    intro i h1 h2
    by_cases h3:i=k
    ·subst h3;exact hc
    ·exact c1_2 i h1 (by omega)
   ·have f1:=kX (L:=Z) (j:=k) (by omega) c1_2
    have f2:fM Z (k+1)=Z.take k:=by rw[fM,if_pos ⟨by omega,hc⟩,List.append_nil,f1]
    have f3:(Z.take k).length=k:=by simp;omega
    refine an (fun ms2 S2=>∃(j:Nat) (Y:List (List Int)),S2.e 0=.ref 0 0 (Y).length∧S2.h 0=.live true (List.map (bt false) (Y))∧0<S2.n∧S2.e 1=.p (.fn 144 [] [])∧S2.e 5=.p (.int .i64 ((fM Z (k+j)).length))∧S2.e 6=.ref 0 k (Z.length - k)∧S2.e 7=.p (.int .i64 (j))∧(1≤j)∧(k+j≤Z.length)∧(Y.length=Z.length)∧(Y.take (fM Z (k+j)).length=fM Z (k+j))∧((fM Z (k+j)).length<k+j)∧(∀q,k+j≤q+1→q<Z.length→Y.getD q []=Z.getD q [])∧S1.n≤S2.n∧ms2=Z.length - k - j) ((fun(j:Nat) (Y:List (List Int))=>Z.length - k - j) (1) (Z)) ?_ ⟨1,Z,dC fL1 ?_⟩
    all_goals try(apply ai;repeat' first|exact ah|apply aa|(apply ak;intro zb hc)|(apply aj;intro zb)|intro j')<;>try apply al
    rintro ms2 S2 ⟨j,Y,h2_0,b2_0,l2_0,h2_1,h2_5,h2_6,h2_7,c2_0,c2_1,c2_2,c2_3,c2_4,c2_5,u2_0,hm2⟩
    have n0:=aG (x:=0) (n:=S2.n)
    have fL2:=(aa h2_0 (aa b2_0 (aa h2_1 (aa h2_5 (aa h2_6 (aa h2_7 n0))))))
    ·by_cases hj:k+j<Z.length
     ·have g1:=c2_5 (k+j) (by omega) hj
      have g2:=c2_5 (k+j - 1) (by omega) (by omega)
      have g3:=hz (Z.getD (k+j) []) (ar hj)
      have g4:=hz (Z.getD (k+j - 1) []) (ar (by omega))
      have g5:((j:Int) - 1).toNat=j - 1:=by omega
      have g6:k+(j - 1)=k+j - 1:=by omega
      have cE1:= @br
      refine lp (aa fL2 (aa @g1 (aa @g2 (aa @g5 (aa @g6 @c2_2))))) ?_
      all_goals try(apply ai;repeat' first|exact ah|apply aa|(apply ak;intro zb hc)|(apply aj;intro zb)|intro j')<;>try apply al
      ·have s1:fM Z (k+(j+1))=fM Z (k+j)++[Z.getD (k+j) []]:=by rw[show k+(j+1)=k+j+1 from rfl,fM,if_neg (fun q=>hc q.2)]
       have s2:(fM Z (k+(j+1))).length=(fM Z (k+j)).length+1:=by rw[s1,List.length_append];rfl
       focus
        refine am ((fun(j:Nat) (Y:List (List Int))=>Z.length - k - j) (j+1) (Y.set (fM Z (k+j)).length (Z.getD (k+j) []))) (dC fL2 ?_) ⟨j+1,Y.set (fM Z (k+j)).length (Z.getD (k+j) []),dC fL2 ?_⟩
        all_goals try(apply ai;repeat' first|exact ah|apply aa|(apply ak;intro zb hc)|(apply aj;intro zb)|intro j')<;>try apply al
       all_goals first|(rw[s2,zg (by omega),c2_3,s1];done)|omega|skip
       all_goals try (intro q h5 h6;rw[List.getD_eq_getElem?_getD,List.getElem?_set_ne (by omega),←List.getD_eq_getElem?_getD];exact c2_5 q (by omega) h6)
      ·have s1:fM Z (k+(j+1))=fM Z (k+j):=by rw[show k+(j+1)=k+j+1 from rfl,fM,if_pos ⟨by omega,hc⟩,List.append_nil]
       focus
        refine am ((fun(j:Nat) (Y:List (List Int))=>Z.length - k - j) (j+1) (Y)) (dC fL2 ?_) ⟨j+1,Y,dC fL2 ?_⟩
        all_goals try(apply ai;repeat' first|exact ah|apply aa|(apply ak;intro zb hc)|(apply aj;intro zb)|intro j')<;>try apply al
       ·rw[s1]
       ·rw[s1];exact c2_3
       ·rw[s1];omega
       ·intro q h5 h6;exact c2_5 q (by omega) h6
     ·have cE1:=trivial
      refine lp (aa fL2 @c2_2) ?_
      all_goals try(apply ai;repeat' first|exact ah|apply aa|(apply ak;intro zb hc)|(apply aj;intro zb)|intro j')<;>try apply al
      obtain e9:k+j=Z.length:=by omega
      rw[List.take_append_of_le_length (by simp;omega),List.take_take,Nat.min_self,c2_3,e9]
    ·rw[f2,f3]
    ·rw[f2,f3]
    ·rw[f2,f3];omega
  ·have cE1:=trivial
   refine lp fL1 ?_
   all_goals try(apply ai;repeat' first|exact ah|apply aa|(apply ak;intro zb hc)|(apply aj;intro zb)|intro j')<;>try apply al
   obtain rfl:k=Z.length:=by omega
   rw[kX (Nat.le_refl _) c1_2,List.take_length]
def pJ:FuncId→List Bool:=fun f=>if f=155 then[true]else if f=157 then[true]else[]
theorem BQ {f:FuncId}:pJ f=if f=155 then[true]else if f=157 then[true]else[]:=_root_.id rfl
theorem yY:fJ pJ=false∧ga pJ=false∧f9 pJ=false∧f8 pJ=false∧gb pJ=false:=⟨rfl,rfl,rfl,rfl,rfl⟩
attribute [go_sem] BQ yY
theorem qq {e0 m0:Bool} (L:List (List Int)) (hL:L.length≤12) (hl:∀l∈L,l.length≤1048576):Fun Tryz.prog 117 [(.sl (.lent m0) (List.map (bt e0) (L)))] [(.sl .own (List.map (bt false) (ov L)))]:=by
 refine fO pJ [2] Tryz.func117 ?_
 have cE1:= @bS;have cE2:= @gB;have cE3:= @br;have cM1:= @gK;have cM2:= @fU
 refine ax trivial ?_
 all_goals try(apply ai;repeat' first|exact ah|apply aa|(apply ak;intro zb hc)|(apply aj;intro zb)|intro j')<;>try apply al
 refine an (fun ms1 S1=>∃(k:Nat),S1.e 7=.p (.sl (.lent m0) (List.map (bt e0) (L)))∧S1.e 8=.p (.int .i64 (L.length))∧OwnL (S1.e 3) S1.h S1.n (bt false) ((L.take k).length) (L.take k)∧S1.e 9=.p (.int .i64 (k))∧(k≤L.length)∧ms1=L.length - k) ((fun(k:Nat)=>L.length - k) (0)) ?_ ⟨0,dC trivial ?_⟩
 all_goals try(apply ai;repeat' first|exact ah|apply aa|(apply ak;intro zb hc)|(apply aj;intro zb)|intro j')<;>try apply al
 rintro ms1 S1 ⟨k,h1_7,h1_8,o1_3,h1_9,c1_0,hm1⟩
 obtain⟨i1_3,h1_3,b1_3,l1_3⟩:=o1_3.out
 have ni1_3:=aG (x:=i1_3) (n:=S1.n)
 have fL1:=(aa h1_7 (aa h1_8 (aa h1_9 (aa h1_3 (aa b1_3 ni1_3)))))
 ·have b1:k<L.length→(L.getD k []).length≤1048576:=fun h=>hl _ (ar h)
  refine dE fL1 ?_
  all_goals try(apply ai;repeat' first|exact ah|apply aa|(apply ak;intro zb hc)|(apply aj;intro zb)|intro j')<;>try apply al
  all_goals try have b3:=b1 (by omega)
  all_goals try exact gZ
  ·focus
    refine am ((fun(k:Nat)=>L.length - k) (k+1)) (dC fL1 ?_) ⟨k+1,dC fL1 ?_⟩
    all_goals try(apply ai;repeat' first|exact ah|apply aa|(apply ak;intro zb hc)|(apply aj;intro zb)|intro j')<;>try apply al
   rw[az (d:=[]) (by omega)]
  ·intro l h;exact hl l (List.mem_of_mem_take h)
  ·rw[qm]
  ·rw[qm];simp;omega
  ·intro l h;have:=hl l (List.mem_of_mem_take (isortL_mem.1 h));omega
  ·rw[List.take_of_length_le (by omega),KR]
theorem s8 {e0 m0:Bool} (L:List (List Int)) (hL:L.length≤1048576) (hl:∀l∈L,l.length≤1048576):Fun Tryz.prog 181 [(.sl (.lent m0) (List.map (bt e0) (L)))] [(.bool (L.all ae))]:=by
 refine fO aR [2] Tryz.func181 ?_
 have cE1:= @aq
 refine ax trivial ?_
 all_goals try(apply ai;repeat' first|exact ah|apply aa|(apply ak;intro zb hc)|(apply aj;intro zb)|intro j')<;>try apply al
 refine an (fun ms1 S1=>∃(k:Nat),S1.e 0=.p (.sl (.lent m0) (List.map (bt e0) (L)))∧S1.e 3=.p (.int .i64 (k))∧(k≤L.length)∧(∀q∈L.take k,ae q=true)∧ms1=L.length - k) ((fun(k:Nat)=>L.length - k) (0)) ?_ ⟨0,dC trivial ?_⟩
 all_goals try(apply ai;repeat' first|exact ah|apply aa|(apply ak;intro zb hc)|(apply aj;intro zb)|intro j')<;>try apply al
 rintro ms1 S1 ⟨k,h1_0,h1_3,c1_0,c1_1,hm1⟩
 have fL1:=(aa h1_0 h1_3)
 by_cases hk:k<L.length
 ·have g1:=hl _ (ar (d:=[]) hk)
  refine ax fL1 ?_
  all_goals try(apply ai;repeat' first|exact ah|apply aa|(apply ak;intro zb hc)|(apply aj;intro zb)|intro j')<;>try apply al
  ·exact(List.all_eq_false.2 ⟨_,ar hk,by rw[hc];decide⟩).symm
  ·focus
    refine am ((fun(k:Nat)=>L.length - k) (k+1)) (dC fL1 ?_) ⟨k+1,dC fL1 ?_⟩
    all_goals try(apply ai;repeat' first|exact ah|apply aa|(apply ak;intro zb hc)|(apply aj;intro zb)|intro j')<;>try apply al
   intro q hq
   rw[az (d:=[]) (by omega)]at hq
   rcases List.mem_append.1 hq with hq|hq
   ·exact c1_1 q hq
   ·simp at hq;subst hq;simpa using hc
 ·refine ax fL1 ?_
  all_goals try(apply ai;repeat' first|exact ah|apply aa|(apply ak;intro zb hc)|(apply aj;intro zb)|intro j')<;>try apply al
  rw[List.take_of_length_le (by omega)]at c1_1
  exact(List.all_eq_true.2 c1_1).symm
theorem m9 {m0:Bool} (b:List UInt8) (s:Cu) (l:List Int) (hb:b.length≤1048576) (hl:l.length≤256) (h0:0<l.length):CallT Tryz.prog false 150 [.mu true (bX b s),.pv (.sl (.lent m0) (List.map (PV.int .i64) l))] [some (bX b (fH b s l.length)),none] [.int .i64 (l.getD (jL b s l.length).toNat 0)]:=by
 have q:=it (b:=b) (s:=s) (n:=l.length)
 refine fX fq [4] Tryz.func150 ?_
 have cM1:= @aE
 refine ax trivial ?_
 all_goals try(apply ai;repeat' first|exact ah|apply aa|(apply ak;intro zb hc)|(apply aj;intro zb)|intro j')<;>try apply al
def Er (p:List Int) (L:List (List Int)) (i:Nat):Nat→Int
 |0=>0
 |j+1=>Er p L i j+db (decide (p.getD j 0<p.getD i 0))*((L.getD j []).length:Int)
def nF (p:List Int) (L:List (List Int)):Nat→List Int
 |0=>[]
 |i+1=>nF p L i++(L.getD i []).map fun x=>Er p L i p.length+x
theorem Cn {p:List Int} {L:List (List Int)} {i:Nat}:∀{j:Nat},j≤L.length→0≤Er p L i j∧Er p L i j≤cn (L.take j)
 |0,_=>by simp[Er,cn]
 |j+1,h=>by
  have ih:=Cn (p:=p) (L:=L) (i:=i) (j:=j) (by omega)
  rw[gV (by omega),Er]
  unfold db;split<;>push_cast<;>omega
theorem tI {p:List Int} {L:List (List Int)}:∀{i:Nat},i≤L.length→(nF p L i).length=cn (L.take i)
 |0,_=>by simp[nF,cn]
 |i+1,h=>by rw[nF,List.length_append,tI (by omega),gV (by omega),List.length_map]
def oF (L:List (List Int)):Bool:=L.all (fun l=>decide (l.length≠0))&&decide (cn L≤8)
theorem GN {L:List (List Int)} {k:Nat} (hk:k<L.length) (h:(L.getD k []).length=0∨8<cn (L.take (k+1))):oF L=false:=by
 rw[←Bool.not_eq_true]
 intro q
 simp only[oF,Bool.and_eq_true,List.all_eq_true,decide_eq_true_eq]at q
 rcases h with h|h
 ·exact q.1 _ (ar hk) h
 ·have:=eS (L:=L) (j:=k+1);omega
theorem It {b:Bool} {n:Nat}:db b*(n:Int)=if b=true then(n:Int)else 0:=by cases b<;>simp[db]
theorem jf {m0 e1 m1:Bool} (p:List Int) (L:List (List Int)) (hp:ae p=true) (he:L.length=p.length) (hL:L.all ae=true):Fun Tryz.prog 151 [(.sl (.lent m0) (List.map (PV.int .i64) (p))),(.sl (.lent m1) (List.map (bt e1) (L)))] [(.sl .own (List.map (PV.int .i64) ((if oF L=true then nF p L p.length else[])))),(.bool (oF L))]:=by
 refine fO aR [4,5] Tryz.func151 ?_
 have cE1:= @dN;have cE2:= @aq;have cE3:= @s8;have cD1:=gY [false,false,false,false,false,false,false,false,false,false,true,false,false,false,false,false,false,false,false] [(0,10),(10,11),(10,12),(10,13),(10,14),(10,15)]
 obtain⟨h8,hq⟩:=ll hp
 obtain⟨q1,q2⟩:=permB_iff.1 hq
 have hr:∀l∈L,l.length≤8∧∀x∈l,1≤x∧x≤8:=fun l hl=>by
  obtain⟨g8,gq⟩:=ll (List.all_eq_true.1 hL l hl)
  refine⟨g8,fun x hx=> ?_⟩
  have:=(permB_iff.1 gq).1 x hx;omega
 have hr0:∀l∈L,l.length≤1048576:=fun l hl=>by have:=(hr l hl).1;omega
 have g1:((L.length:Int)=(p.length:Int))=True:=eq_true (by omega)
 refine ax (aa @hp (aa @hL @g1)) ?_
 all_goals try(apply ai;repeat' first|exact ah|apply aa|(apply ak;intro zb hc)|(apply aj;intro zb)|intro j')<;>try apply al
 refine an (fun ms1 S1=>∃(k:Nat),S1.e 0=.p (.sl (.lent m0) (List.map (PV.int .i64) (p)))∧S1.e 1=.p (.sl (.lent m1) (List.map (bt e1) (L)))∧S1.e 6=.p (.int .i64 (cn (L.take k)))∧S1.e 7=.p (.int .i64 (k))∧(k≤L.length)∧(cn (L.take k)≤8)∧(∀j,j<k→(L.getD j []).length≠0)∧ms1=L.length - k) ((fun(k:Nat)=>L.length - k) (0)) ?_ ⟨0,dC trivial ?_⟩
 all_goals try(apply ai;repeat' first|exact ah|apply aa|(apply ak;intro zb hc)|(apply aj;intro zb)|intro j')<;>try apply al
 rintro ms1 S1 ⟨k,h1_0,h1_1,h1_6,h1_7,c1_0,c1_1,c1_2,hm1⟩
 have fL1:=(aa h1_0 (aa h1_1 (aa h1_6 h1_7)))
 ·have b0:=eS (L:=L) (j:=k)
  by_cases hk:k<L.length
  ·have r1:=(hr _ (ar (d:=[]) hk)).1
   have r2:=gV hk
   by_cases hz:(L.getD k []).length=0∨8<cn (L.take (k+1))
   ·have r3:=GN hk hz
    rw[r3]
    refine ax fL1 ?_
    all_goals try(apply ai;repeat' first|exact ah|apply aa|(apply ak;intro zb hc)|(apply aj;intro zb)|intro j')<;>try apply al
   ·refine ax fL1 ?_
    all_goals try(apply ai;repeat' first|exact ah|apply aa|(apply ak;intro zb hc)|(apply aj;intro zb)|intro j')<;>try apply al
    focus
     refine am ((fun(k:Nat)=>L.length - k) (k+1)) (dC fL1 ?_) ⟨k+1,dC fL1 ?_⟩
     all_goals try(apply ai;repeat' first|exact ah|apply aa|(apply ak;intro zb hc)|(apply aj;intro zb)|intro j')<;>try apply al
    all_goals(first|(intro j hj;rcases Nat.lt_succ_iff_lt_or_eq.1 hj with g|g;exact c1_2 j g;subst g;omega)|skip)
  ·obtain rfl:k=L.length:=by omega
   have g2:oF L=true:=by
    rw[List.take_length]at c1_1
    simp only[oF,Bool.and_eq_true,List.all_eq_true,decide_eq_true_eq]
    refine⟨fun l hl=> ?_,c1_1⟩
    obtain⟨i,hi,rfl⟩:=List.getElem_of_mem hl
    have:=c1_2 i hi
    rwa [List.getD_eq_getElem?_getD,List.getElem?_eq_getElem hi]at this
   have g3:cn L≤8:=by rw[List.take_length]at c1_1;exact c1_1
   rw[g2,if_pos rfl]
   refine ax fL1 ?_
   all_goals try(apply ai;repeat' first|exact ah|apply aa|(apply ak;intro zb hc)|(apply aj;intro zb)|intro j')<;>try apply al
   refine an (fun ms2 S2=>∃(i:Nat),S2.e 0=.p (.sl (.lent m0) (List.map (PV.int .i64) (p)))∧S2.e 1=.p (.sl (.lent m1) (List.map (bt e1) (L)))∧OwnL (S2.e 8) S2.h S2.n (PV.int .i64) ((nF p L i).length) (nF p L i)∧S2.e 9=.p (.int .i64 (i))∧(i≤p.length)∧S1.n≤S2.n∧ms2=p.length - i) ((fun(i:Nat)=>p.length - i) (0)) ?_ ⟨0,dC fL1 ?_⟩
   all_goals try(apply ai;repeat' first|exact ah|apply aa|(apply ak;intro zb hc)|(apply aj;intro zb)|intro j')<;>try apply al
   rintro ms2 S2 ⟨i,h2_0,h2_1,o2_8,h2_9,c2_0,u2_0,hm2⟩
   obtain⟨i2_8,h2_8,b2_8,l2_8⟩:=o2_8.out
   have ni2_8:=aG (x:=i2_8) (n:=S2.n)
   have fL2:=(aa h2_0 (aa h2_1 (aa h2_9 (aa h2_8 (aa b2_8 ni2_8)))))
   ·have g4:=tI (p:=p) (L:=L) (i:=i) (by omega)
    have g5:=eS (L:=L) (j:=i)
    by_cases hi:i<p.length
    ·have g6:=gV (L:=L) (j:=i) (by omega)
     have g7:=eS (L:=L) (j:=i+1)
     have w1:=hr _ (ar (d:=[]) (show i<L.length by omega))
     refine ax fL2 ?_
     all_goals try(apply ai;repeat' first|exact ah|apply aa|(apply ak;intro zb hc)|(apply aj;intro zb)|intro j')<;>try apply al
     refine an (fun ms3 S3=>∃(j:Nat),S3.e 0=.p (.sl (.lent m0) (List.map (PV.int .i64) (p)))∧S3.e 1=.p (.sl (.lent m1) (List.map (bt e1) (L)))∧OwnL (S3.e 8) S3.h S3.n (PV.int .i64) ((nF p L i).length) (nF p L i)∧S3.e 9=.p (.int .i64 (i))∧S3.e 10=.p (.int .i64 (Er p L i j))∧S3.e 11=.p (.int .i64 (j))∧(j≤p.length)∧S2.n≤S3.n∧ms3=p.length - j) ((fun(j:Nat)=>p.length - j) (0)) ?_ ⟨0,dC fL2 ?_⟩
     all_goals try(apply ai;repeat' first|exact ah|apply aa|(apply ak;intro zb hc)|(apply aj;intro zb)|intro j')<;>try apply al
     rintro ms3 S3 ⟨j,h3_0,h3_1,o3_8,h3_9,h3_10,h3_11,c3_0,u3_0,hm3⟩
     obtain⟨i3_8,h3_8,b3_8,l3_8⟩:=o3_8.out
     have ni3_8:=aG (x:=i3_8) (n:=S3.n)
     have fL3:=(aa h3_0 (aa h3_1 (aa h3_9 (aa h3_10 (aa h3_11 (aa h3_8 (aa b3_8 ni3_8)))))))
     ·have v1:=Cn (p:=p) (L:=L) (i:=i) (j:=j) (by omega)
      have v2:=eS (L:=L) (j:=j)
      by_cases hj:j<p.length
      ·have v3:=Cn (p:=p) (L:=L) (i:=i) (j:=j+1) (by omega)
       have v4:=eS (L:=L) (j:=j+1)
       have v5:=(hr _ (ar (d:=[]) (show j<L.length by omega))).1
       have v6:0≤db (decide (p.getD j 0<p.getD i 0))*((L.getD j []).length:Int)∧db (decide (p.getD j 0<p.getD i 0))*((L.getD j []).length:Int)≤8:=by rw[It];split<;>omega
       refine ax fL3 ?_
       all_goals try(apply ai;repeat' first|exact ah|apply aa|(apply ak;intro zb hc)|(apply aj;intro zb)|intro j')<;>try apply al
       focus
        refine am ((fun(j:Nat)=>p.length - j) (j+1)) (dC fL3 ?_) ⟨j+1,dC fL3 ?_⟩
        all_goals try(apply ai;repeat' first|exact ah|apply aa|(apply ak;intro zb hc)|(apply aj;intro zb)|intro j')<;>try apply al
      ·obtain rfl:j=p.length:=by omega
       refine ax fL3 ?_
       all_goals try(apply ai;repeat' first|exact ah|apply aa|(apply ak;intro zb hc)|(apply aj;intro zb)|intro j')<;>try apply al
       refine an (fun ms4 S4=>∃(m:Nat),S4.e 0=.p (.sl (.lent m0) (List.map (PV.int .i64) (p)))∧S4.e 1=.p (.sl (.lent m1) (List.map (bt e1) (L)))∧OwnL (S4.e 8) S4.h S4.n (PV.int .i64) ((nF p L i++((L.getD i []).take m).map (fun x=>Er p L i p.length+x)).length) (nF p L i++((L.getD i []).take m).map (fun x=>Er p L i p.length+x))∧S4.e 9=.p (.int .i64 (i))∧S4.e 12=.p (.int .i64 (m))∧S4.e 10=.p (.int .i64 (Er p L i p.length))∧(m≤(L.getD i []).length)∧S3.n≤S4.n∧ms4=(L.getD i []).length - m) ((fun(m:Nat)=>(L.getD i []).length - m) (0)) ?_ ⟨0,dC fL3 ?_⟩
       all_goals try(apply ai;repeat' first|exact ah|apply aa|(apply ak;intro zb hc)|(apply aj;intro zb)|intro j')<;>try apply al
       rintro ms4 S4 ⟨m,h4_0,h4_1,o4_8,h4_9,h4_12,h4_10,c4_0,u4_0,hm4⟩
       obtain⟨i4_8,h4_8,b4_8,l4_8⟩:=o4_8.out
       have ni4_8:=aG (x:=i4_8) (n:=S4.n)
       have fL4:=(aa h4_0 (aa h4_1 (aa h4_9 (aa h4_12 (aa h4_10 (aa h4_8 (aa b4_8 ni4_8)))))))
       ·by_cases hm:m<(L.getD i []).length
        ·have w2:=w1.2 _ (ar (d:=0) hm)
         refine ax fL4 ?_
         all_goals try(apply ai;repeat' first|exact ah|apply aa|(apply ak;intro zb hc)|(apply aj;intro zb)|intro j')<;>try apply al
         focus
          refine am ((fun(m:Nat)=>(L.getD i []).length - m) (m+1)) (dC fL4 ?_) ⟨m+1,dC fL4 ?_⟩
          all_goals try(apply ai;repeat' first|exact ah|apply aa|(apply ak;intro zb hc)|(apply aj;intro zb)|intro j')<;>try apply al
         all_goals(first|(rw[az (d:=0) hm,List.map_append];rfl)|skip)
        ·refine ax fL4 ?_
         all_goals try(apply ai;repeat' first|exact ah|apply aa|(apply ak;intro zb hc)|(apply aj;intro zb)|intro j')<;>try apply al
         focus
          refine am ((fun(i:Nat)=>p.length - i) (i+1)) (dC fL4 ?_) ⟨i+1,dC fL4 ?_⟩
          all_goals try(apply ai;repeat' first|exact ah|apply aa|(apply ak;intro zb hc)|(apply aj;intro zb)|intro j')<;>try apply al
         all_goals(first|(rw[List.take_of_length_le (by omega),nF];done)|skip)
    ·obtain rfl:i=p.length:=by omega
     refine ax fL2 ?_
     all_goals try(apply ai;repeat' first|exact ah|apply aa|(apply ak;intro zb hc)|(apply aj;intro zb)|intro j')<;>try apply al
 all_goals(first|(simp[cn];done)|skip)
end Go.Gl
