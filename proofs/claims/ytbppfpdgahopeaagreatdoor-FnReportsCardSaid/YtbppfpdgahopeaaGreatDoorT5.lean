/-
  What the functions compute, and what the law asks of it: texts joined. Conditions: those that each lemma names.
-/
import Derived.Test.YtbppfpdgahopeaaGreatDoorT4
import Derived.Test.YtbppfpdgahopeaaGreatDoorT1
import Derived.Test.YtbppfpdgahopeaaGreatDoorT3
import Derived.Test.YtbppfpdgahopeaaGreatDoorT2
import Derived.Test.YtbppfpdgahopeaaGreatDoorGlC
set_option linter.unusedSimpArgs false
set_option linter.unusedVariables false
set_option maxRecDepth 20000
set_option linter.unusedSectionVars false
set_option maxHeartbeats 16000000
namespace Go.Gl
open Go Go.Proofs
variable [Amb] [NoQ]
def IK (R:Int→Int→Bool) (x:Int) (L:List (Int×Int)):Int:=L.foldl (fun v y=>if R x y.1=true then max v (y.2+1)else v) 1
def jX (R:Int→Int→Bool):List Int→List Int
 |[]=>[]
 |x::l=>IK R x (l.zip (jX R l))::jX R l
theorem iv {R:Int→Int→Bool}:∀{l:List Int},(jX R l).length=l.length
 |[]=>rfl
 |_::l=>by simp[jX,iv (l:=l)]
theorem xU {R:Int→Int→Bool} {x m:Int} (hm:2≤m):∀{L:List (Int×Int)} {v:Int},m≤L.foldl (fun v y=>if R x y.1=true then max v (y.2+1)else v) v↔m≤v∨∃y∈L,R x y.1=true∧m≤y.2+1
 |[],v=>by simp
 |y::L,v=>by
  rw[List.foldl_cons,xU hm (L:=L)]
  constructor
  ·rintro(h|⟨z,h1,h2⟩)
   ·split at h
    ·rename_i g
     by_cases q:m≤v
     ·exact .inl q
     ·exact .inr ⟨y,by simp,g,by omega⟩
    ·exact .inl h
   ·exact .inr ⟨z,by simp[h1],h2⟩
  ·rintro(h|⟨z,h1,h2,h3⟩)
   ·exact .inl (by split<;>omega)
   ·rcases List.mem_cons.1 h1 with e|g
    ·subst e;exact .inl (by rw[if_pos h2];omega)
    ·exact .inr ⟨z,g,h2,h3⟩
theorem Et {R:Int→Int→Bool} {x:Int}:∀{L:List (Int×Int)} {v:Int},v≤L.foldl (fun v y=>if R x y.1=true then max v (y.2+1)else v) v
 |[],v=>Int.le_refl _
 |y::L,v=>by
  rw[List.foldl_cons]
  refine Int.le_trans ?_ (Et (L:=L))
  split<;>omega
theorem zk {R:Int→Int→Bool} (tr:∀a b c,R a b=true→R b c=true→R a c=true):∀{l:List Int} {m:Nat},(∃v∈jX R l,(m:Int)+1≤v)↔∃s:List Int,s.length=m+1∧s.Sublist l∧s.Pairwise (fun a b=>R a b=true):=by
 intro l
 have key:∀{l:List Int} (i:Nat),i<l.length→∀m:Nat,((m:Int)+1≤(jX R l).getD i 0↔∃s:List Int,s.length=m∧(l.getD i 0::s).Sublist (l.drop i)∧(l.getD i 0::s).Pairwise (fun a b=>R a b=true)):=by
  intro l
  induction l with
  |nil=>intro i hi;simp at hi
  |cons x l ih=>
   intro i hi m
   cases i with
   |succ i=>
    have hi':i<l.length:=by simpa using hi
    simpa[jX]using ih i hi' m
   |zero=>
    have e1:(jX R (x::l)).getD 0 0=IK R x (l.zip (jX R l)):=rfl
    have e2:(x::l).getD 0 0=x:=rfl
    rw[e1,e2,List.drop_zero]
    cases m with
    |zero=>
     have:=Et (R:=R) (x:=x) (L:=l.zip (jX R l)) (v:=1)
     exact⟨fun _=>⟨[],rfl,by simp,by simp⟩,fun _=>by unfold IK;omega⟩
    |succ m=>
     unfold IK
     rw[xU (by omega)]
     constructor
     ·rintro(h|⟨y,h1,h2,h3⟩)
      ·omega
      ·obtain⟨j,hj,ej⟩:=bh h1
       rw[List.length_zip,iv]at hj
       rw[List.getElem_zip]at ej
       have a1:l.getD j 0=y.1:=by rw[←ej,ac,ae (by omega)];rfl
       have a2:(jX R l).getD j 0=y.2:=by rw[←ej,ac,ae (by rw[iv];omega)];rfl
       obtain⟨s,s1,s2,s3⟩:=(ih j (by omega) m).1 (by rw[a2];omega)
       rw[a1]at s2 s3
       refine⟨y.1::s,by simp[s1],(s2.trans (List.drop_sublist _ _)).cons_cons x,List.pairwise_cons.2 ⟨fun z hz=> ?_,s3⟩⟩
       rcases List.mem_cons.1 hz with e|g
       ·rw[e];exact h2
       ·exact tr _ _ _ h2 ((List.pairwise_cons.1 s3).1 z g)
     ·rintro⟨s,s1,s2,s3⟩
      match s,s1 with
      |y::s,s1=>
       have s2':(y::s).Sublist l:=List.cons_sublist_cons.1 s2
       have fnd:∀{l:List Int},(y::s).Sublist l→∃j,j<l.length∧l.getD j 0=y∧(y::s).Sublist (l.drop j):=fun {l} h=>by
        induction l with
        |nil=>cases h
        |cons z l ih2=>
         rcases List.sublist_cons_iff.1 h with g|⟨r,e,g⟩
         ·obtain⟨j,j1,j2,j3⟩:=ih2 g
          exact⟨j+1,by simpa using j1,by simpa using j2,by simpa using j3⟩
         ·cases e
          exact⟨0,by simp,rfl,by simpa using h⟩
       obtain⟨j,j1,j2,j3⟩:=fnd s2'
       obtain⟨p1,p2⟩:=List.pairwise_cons.1 s3
       have hv:=(ih j j1 m).2 ⟨s,by simpa using s1,by rw[j2];exact j3,by rw[j2];exact p2⟩
       refine .inr ⟨(y,(jX R l).getD j 0), ?_,p1 y (by simp),by simp only;omega⟩
       have hz:j<(l.zip (jX R l)).length:=by rw[List.length_zip,iv];omega
       have:(l.zip (jX R l))[j]=(y,(jX R l).getD j 0):=by
        rw[List.getElem_zip]
        congr 1
        ·rw[←j2,ac,ae j1];rfl
        ·rw[ac,ae (by rw[iv];omega)];rfl
       rw[←this];exact List.getElem_mem hz
 intro m
 constructor
 ·rintro⟨v,h1,h2⟩
  obtain⟨i,hi,e⟩:=bh h1
  rw[iv]at hi
  have e':(jX R l).getD i 0=v:=by rw[ac,ae (by rw[iv];omega)];exact e
  obtain⟨s,s1,s2,s3⟩:=(key i hi m).1 (by rw[e'];exact h2)
  exact⟨l.getD i 0::s,by simp[s1],s2.trans (List.drop_sublist _ _),s3⟩
 ·rintro⟨s,s1,s2,s3⟩
  match s,s1 with
  |y::s,s1=>
   have fnd:∀{l:List Int},(y::s).Sublist l→∃j,j<l.length∧l.getD j 0=y∧(y::s).Sublist (l.drop j):=fun {l} h=>by
    induction l with
    |nil=>cases h
    |cons z l ih2=>
     rcases List.sublist_cons_iff.1 h with g|⟨r,e,g⟩
     ·obtain⟨j,j1,j2,j3⟩:=ih2 g
      exact⟨j+1,by simpa using j1,by simpa using j2,by simpa using j3⟩
     ·cases e
      exact⟨0,by simp,rfl,by simpa using h⟩
   obtain⟨j,j1,j2,j3⟩:=fnd s2
   have hv:=(key j j1 m).2 ⟨s,by simpa using s1,by rw[j2];exact j3,by rw[j2];exact s3⟩
   exact⟨_,aF (by rw[iv];exact j1),hv⟩
theorem t6 {l:List Int} {m:Nat}:(m:Int)+1≤lO l↔∃v∈l,(m:Int)+1≤v:=by
 constructor
 ·intro h
  refine Classical.byContradiction fun g=> ?_
  have:=qC (B:=(m:Int)) (by omega) (l:=l) fun x hx=>by
   by_cases q:x≤m
   ·exact q
   ·exact absurd ⟨x,hx,by omega⟩ g
  omega
 ·rintro⟨v,h1,h2⟩
  have:=(ka (l:=l)).2 v h1;omega
def wC (a b:Int):Bool:= !decide (b<a)
def s6 (a b:Int):Bool:=decide (b<a)
theorem J9 {p:List Int} (hp:p.Nodup):lO (jX wC p)=lO (jX s6 p.reverse):=by
 have key:∀m:Nat,(m:Int)+1≤lO (jX wC p)↔(m:Int)+1≤lO (jX s6 p.reverse):=fun m=>by
  rw[t6,t6,zk (fun a b c h1 h2=>by simp only[wC,Bool.not_eq_true',decide_eq_false_iff_not]at*;omega),zk (fun a b c h1 h2=>by simp only[s6,decide_eq_true_eq]at*;omega)]
  constructor
  ·rintro⟨s,s1,s2,s3⟩
   refine⟨s.reverse,by simpa using s1,List.reverse_sublist.2 s2, ?_⟩
   rw[List.pairwise_reverse]
   have nd:s.Pairwise (·≠·):=List.nodup_iff_pairwise_ne.1 (hp.sublist s2)
   exact List.Pairwise.imp₂ (fun a b h1 h2=>by simp only[wC,s6,Bool.not_eq_true',decide_eq_false_iff_not,decide_eq_true_eq]at*;omega) s3 nd
  ·rintro⟨s,s1,s2,s3⟩
   refine⟨s.reverse,by simpa using s1,by have:=List.reverse_sublist.2 s2;rwa [List.reverse_reverse]at this, ?_⟩
   rw[List.pairwise_reverse]
   exact List.Pairwise.imp (fun h=>by simp only[wC,s6,Bool.not_eq_true',decide_eq_false_iff_not,decide_eq_true_eq]at*;omega) s3
 have h1:=(ka (l:=jX wC p)).1
 have h2:=(ka (l:=jX s6 p.reverse)).1
 have k1:=key ((lO (jX wC p)).toNat - 1)
 have k2:=key ((lO (jX s6 p.reverse)).toNat - 1)
 omega
def wx (p:List Int) (i:Nat):Bool:=decide (p.getD i 0<p.getD (i - 1) 0)==decide ((i:Int).tmod 2=1)
def rM (p:List Int):Bool:=al p&&(List.range p.length).all fun i=>decide (i=0)||wx p i
theorem EP {p:List Int} {k:Nat} (hk:k<p.length) (h0:1≤k) (h:wx p k=false):rM p=false:=by
 rw[rM,Bool.and_eq_false_iff]
 refine .inr (List.all_eq_false.2 ⟨k,List.mem_range.2 hk, ?_⟩)
 rw[h,decide_eq_false (by omega)];decide
theorem zw {p:List Int} (h:∀i,1≤i→i<p.length→wx p i=true):rM p=al p:=by
 have:((List.range p.length).all fun i=>decide (i=0)||wx p i)=true:=List.all_eq_true.2 fun i hi=>by
  rw[List.mem_range]at hi
  by_cases h0:i=0
  ·rw[decide_eq_true h0];rfl
  ·rw[h i (by omega) hi,Bool.or_true]
 rw[rM,this,Bool.and_true]
theorem gL {m0:Bool} (p:List Int) (hp:p.length≤1048576):Fun Tryz.prog 83 [(.sl (.lent m0) (List.map (PV.int .i64) (p)))] [(.bool (rM p))]:=by
 refine fO bA [2] Tryz.func83 ?_
 have cE1:= @aD
 refine aQ trivial ?_
 all_goals try(apply aq;repeat' first|exact ao|apply aa|(apply au;intro zb hc)|(apply ar;intro zb)|intro j')<;>try apply aw
 refine az (fun ms1 S1=>∃(k:Nat),S1.e 0=.p (.sl (.lent m0) (List.map (PV.int .i64) (p)))∧S1.e 3=.p (.int .i64 (k))∧(1≤k)∧(k≤p.length∨k=1)∧(∀i,1≤i→i<k→wx p i=true)∧ms1=p.length - k) ((fun(k:Nat)=>p.length - k) (1)) ?_ ⟨1,dC trivial ?_⟩
 all_goals try(apply aq;repeat' first|exact ao|apply aa|(apply au;intro zb hc)|(apply ar;intro zb)|intro j')<;>try apply aw
 rintro ms1 S1 ⟨k,h1_0,h1_3,c1_0,c1_1,c1_2,hm1⟩
 have fL1:=(aa h1_0 h1_3)
 by_cases hk:k<p.length
 ·have z:((k:Int) - 1).toNat=k - 1:=by omega
  cases ha:wx p k with
  |true=>
   have ha':(decide (p.getD k 0<p.getD (k - 1) 0)==decide ((k:Int).tmod 2=1))=true:=ha
   refine aQ (aa fL1 (aa @ha' @z)) ?_
   all_goals try(apply aq;repeat' first|exact ao|apply aa|(apply au;intro zb hc)|(apply ar;intro zb)|intro j')<;>try apply aw
   focus
    refine ay ((fun(k:Nat)=>p.length - k) (k+1)) (dC fL1 ?_) ⟨k+1,dC fL1 ?_⟩
    all_goals try(apply aq;repeat' first|exact ao|apply aa|(apply au;intro zb hc)|(apply ar;intro zb)|intro j')<;>try apply aw
   all_goals(first|(intro i h1 h2;by_cases e:i=k;(subst e;exact ha);exact c1_2 i h1 (by omega))|omega|skip)
  |false=>
   have ha':(decide (p.getD k 0<p.getD (k - 1) 0)==decide ((k:Int).tmod 2=1))=false:=ha
   rw[EP hk c1_0 ha]
   refine aQ (aa fL1 (aa @ha' @z)) ?_
   all_goals try(apply aq;repeat' first|exact ao|apply aa|(apply au;intro zb hc)|(apply ar;intro zb)|intro j')<;>try apply aw
 ·rw[zw fun i h1 h2=>c1_2 i h1 (by omega)]
  refine aQ fL1 ?_
  all_goals try(apply aq;repeat' first|exact ao|apply aa|(apply au;intro zb hc)|(apply ar;intro zb)|intro j')<;>try apply aw
theorem cw {m0:Bool} (p:List Int) (hp:p.length≤1048576):Fun Tryz.prog 104 [(.sl (.lent m0) (List.map (PV.int .i64) (p)))] [(.bool (rM p))]:=by
 by_cases h:al p=true
 ·refine fO bA [2] Tryz.func104 ?_
  have cE1:= @aA
  refine aQ @h ?_
  all_goals try(apply aq;repeat' first|exact ao|apply aa|(apply au;intro zb hc)|(apply ar;intro zb)|intro j')<;>try apply aw
  refine az (fun ms1 S1=>∃(k:Nat),S1.e 0=.p (.sl (.lent m0) (List.map (PV.int .i64) (p)))∧S1.e 3=.p (.int .i64 (k))∧(1≤k)∧(k≤p.length∨k=1)∧(∀i,1≤i→i<k→wx p i=true)∧ms1=p.length - k) ((fun(k:Nat)=>p.length - k) (1)) ?_ ⟨1,dC trivial ?_⟩
  all_goals try(apply aq;repeat' first|exact ao|apply aa|(apply au;intro zb hc)|(apply ar;intro zb)|intro j')<;>try apply aw
  rintro ms1 S1 ⟨k,h1_0,h1_3,c1_0,c1_1,c1_2,hm1⟩
  have fL1:=(aa h1_0 h1_3)
  by_cases hk:k<p.length
  ·have z:((k:Int) - 1).toNat=k - 1:=by omega
   cases ha:wx p k with
   |true=>
    have ha':(decide (p.getD k 0<p.getD (k - 1) 0)==decide ((k:Int).tmod 2=1))=true:=ha
    refine aQ (aa fL1 (aa @ha' @z)) ?_
    all_goals try(apply aq;repeat' first|exact ao|apply aa|(apply au;intro zb hc)|(apply ar;intro zb)|intro j')<;>try apply aw
    focus
     refine ay ((fun(k:Nat)=>p.length - k) (k+1)) (dC fL1 ?_) ⟨k+1,dC fL1 ?_⟩
     all_goals try(apply aq;repeat' first|exact ao|apply aa|(apply au;intro zb hc)|(apply ar;intro zb)|intro j')<;>try apply aw
    all_goals(first|(intro i h1 h2;by_cases e:i=k;(subst e;exact ha);exact c1_2 i h1 (by omega))|omega|skip)
   |false=>
    have ha':(decide (p.getD k 0<p.getD (k - 1) 0)==decide ((k:Int).tmod 2=1))=false:=ha
    rw[EP hk c1_0 ha]
    refine aQ (aa fL1 (aa @ha' @z)) ?_
    all_goals try(apply aq;repeat' first|exact ao|apply aa|(apply au;intro zb hc)|(apply ar;intro zb)|intro j')<;>try apply aw
  ·rw[zw fun i h1 h2=>c1_2 i h1 (by omega),h]
   refine aQ fL1 ?_
   all_goals try(apply aq;repeat' first|exact ao|apply aa|(apply au;intro zb hc)|(apply ar;intro zb)|intro j')<;>try apply aw
 ·rw[aI]at h
  have e:rM p=false:=by rw[rM,h];rfl
  rw[e]
  refine fO bA [2] Tryz.func104 ?_
  have cE1:= @aA
  refine aQ @h ?_
  all_goals try(apply aq;repeat' first|exact ao|apply aa|(apply au;intro zb hc)|(apply ar;intro zb)|intro j')<;>try apply aw
def ue (p:List Int):Bool:=al p&&decide (p=AA p)
theorem hY {m0:Bool} (p:List Int) (hp:p.length≤1048576):Fun Tryz.prog 82 [(.sl (.lent m0) (List.map (PV.int .i64) (p)))] [(.bool (ue p))]:=by
 by_cases h:al p=true
 ·obtain⟨h8,hq⟩:=aK h
  have i1:(AA p).length=p.length:=nw
  rw[ue,h,Bool.true_and]
  refine fO bA [2] Tryz.func82 ?_
  have cE1:= @aD;have cE2:= @gs;have cE3:= @bT
  refine aQ @h ?_
  all_goals try(apply aq;repeat' first|exact ao|apply aa|(apply au;intro zb hc)|(apply ar;intro zb)|intro j')<;>try apply aw
 ·rw[aI]at h
  rw[ue,h,Bool.false_and]
  refine fO bA [2] Tryz.func82 ?_
  have cE1:= @aD;have cE2:= @gs;have cE3:= @bT
  refine aQ @h ?_
  all_goals try(apply aq;repeat' first|exact ao|apply aa|(apply au;intro zb hc)|(apply ar;intro zb)|intro j')<;>try apply aw
theorem cE {m0:Bool} (p:List Int) (hp:p.length≤1048576):Fun Tryz.prog 103 [(.sl (.lent m0) (List.map (PV.int .i64) (p)))] [(.bool (ue p))]:=by
 by_cases h:al p=true
 ·obtain⟨h8,hq⟩:=aK h
  have i1:(AA p).length=p.length:=nw
  rw[ue,h,Bool.true_and]
  refine fO bA [2] Tryz.func103 ?_
  have cE1:= @aA;have cE2:= @iR;have cE3:= @bV
  refine aQ @h ?_
  all_goals try(apply aq;repeat' first|exact ao|apply aa|(apply au;intro zb hc)|(apply ar;intro zb)|intro j')<;>try apply aw
 ·rw[aI]at h
  rw[ue,h,Bool.false_and]
  refine fO bA [2] Tryz.func103 ?_
  have cE1:= @aA;have cE2:= @iR;have cE3:= @bV
  refine aQ @h ?_
  all_goals try(apply aq;repeat' first|exact ao|apply aa|(apply au;intro zb hc)|(apply ar;intro zb)|intro j')<;>try apply aw
def uE (x:Int) (a:Int×Int) (y:Int×Int×Int):Int×Int:=if y.1<x then a else if y.2.1+1<a.1 then a else if a.1<y.2.1+1 then(y.2.1+1,y.2.2)else(a.1,a.2+y.2.2)
def lP:List Int→List (Int×Int)
 |[]=>[]
 |x::l=>(l.zip (lP l)).foldl (uE x) (1,1)::lP l
theorem iq:∀{l:List Int},(lP l).length=l.length
 |[]=>rfl
 |_::l=>by simp[lP,iq (l:=l)]
theorem uc:∀{l:List Int} {k:Nat},(lP l).getD k (0,0)=(lP (l.drop k)).getD 0 (0,0)
 |_,0=>by rw[List.drop_zero]
 |[],k+1=>by simp[lP]
 |x::l,k+1=>by rw[List.drop_succ_cons,←uc,lP,List.getD_cons_succ]
theorem Mz {l:List Int} {i:Nat} (h:i<l.length):(lP (l.drop i)).getD 0 (0,0)=((l.drop (i+1)).zip (lP (l.drop (i+1)))).foldl (uE (l.getD i 0)) (1,1):=by
 rw[bH h,lP,List.getD_cons_zero]
theorem yH {x:Int} {B:Nat}:∀{l:List Int} {c:List (Int×Int)} {a:Int×Int},((l.zip c).foldl (uE x) a).1=(l.zip (c.map Prod.fst)).foldl (fun v y=>if wC x y.1=true then max v (y.2+1)else v) a.1
 |[],_,_=>by simp
 |_::_,[],_=>by simp
 |y::l,z::c,a=>by
  simp only[List.map_cons,List.zip_cons_cons,List.foldl_cons]
  rw[yH (B:=B)]
  congr 1
  unfold uE wC
  by_cases h:y<x
  ·simp[h]
  ·simp only[h,if_false,decide_false,Bool.not_false,if_true]
   split
   ·omega
   ·split<;>simp only<;>omega
theorem pE:∀{l:List Int},(lP l).map Prod.fst=jX wC l
 |[]=>rfl
 |x::l=>by
  rw[lP,List.map_cons,pE,jX,IK,←pE (l:=l),yH (B:=0)]
theorem Jq {x:Int} {n B:Nat}:∀{l:List Int} {c:List (Int×Int)} {a:Int×Int} {m:Nat},(∀y∈c,0≤y.1∧y.1≤(n:Int)∧0≤y.2∧y.2≤(B:Int))→0≤a.1∧a.1≤(n:Int)+1∧0≤a.2∧a.2≤(m:Int)→B≤m→
   0≤((l.zip c).foldl (uE x) a).1∧((l.zip c).foldl (uE x) a).1≤(n:Int)+1∧0≤((l.zip c).foldl (uE x) a).2∧((l.zip c).foldl (uE x) a).2≤((m+l.length*B:Nat):Int)
 |[],_,a,m,_,h,_=>by simp;omega
 |y::l,[],a,m,_,h,_=>by
  rw[List.zip_nil_right,List.foldl_nil]
  have:=Nat.le_add_right m ((y::l).length*B)
  omega
 |y::l,z::c,a,m,hc,h,hB=>by
  have hz:=hc z List.mem_cons_self
  have hs:0≤(uE x a (y,z)).1∧(uE x a (y,z)).1≤(n:Int)+1∧0≤(uE x a (y,z)).2∧(uE x a (y,z)).2≤((m+B:Nat):Int):=by
   unfold uE
   split
   ·omega
   ·split
    ·omega
    ·split<;>simp only<;>omega
  have:=Jq (x:=x) (l:=l) (c:=c) (m:=m+B) (fun y hy=>hc y (aY _ hy)) hs (by omega)
  rw[List.zip_cons_cons,List.foldl_cons,aC,Nat.succ_mul]
  refine⟨this.1,this.2.1,this.2.2.1, ?_⟩
  have h4:=this.2.2.2
  have e:m+B+l.length*B=m+(l.length*B+B):=by omega
  rw[e]at h4;exact h4
theorem Dl:∀{l:List Int},l.length≤8→∀y∈lP l,0≤y.1∧y.1≤(l.length:Int)∧0≤y.2∧y.2≤((9^l.length:Nat):Int)
 |[],_=>by simp[lP]
 |x::l,h=>by
  rw[aC]at h ⊢
  have ih:=Dl (l:=l) (by omega)
  have e:9^(l.length+1)=9*9^l.length:=by rw[Nat.pow_succ,Nat.mul_comm]
  have p0:0<9^l.length:=Nat.pow_pos (by decide)
  intro y hy
  rw[lP]at hy
  rcases List.mem_cons.1 hy with g|g
  ·have:=Jq (x:=x) (l:=l) (c:=lP l) (a:=(1,1)) (m:=9^l.length) ih ⟨by decide,by simp only;omega,by decide,by simp only;omega⟩ (am _)
   rw[←g]at this
   have h7:=Nat.mul_le_mul_right (9^l.length) (show l.length≤7 by omega)
   have:((l.length+1:Nat):Int)=(l.length:Int)+1:=by omega
   omega
  ·have:=ih y g
   have:((l.length+1:Nat):Int)=(l.length:Int)+1:=by omega
   omega
theorem Sp:∀d,d≤8→9^d≤43046721:=by decide
theorem Jp {p:List Int} (h8:p.length≤8) {k:Nat} (hk:k<p.length):0≤((lP (p.drop k)).getD 0 (0,0)).1∧((lP (p.drop k)).getD 0 (0,0)).1≤8∧0≤((lP (p.drop k)).getD 0 (0,0)).2∧((lP (p.drop k)).getD 0 (0,0)).2≤43046721:=by
 have hl:(p.drop k).length=p.length - k:=List.length_drop
 have:=Dl (l:=p.drop k) (by omega) _ (aF (l:=lP (p.drop k)) (i:=0) (d:=(0,0)) (by rw[iq];omega))
 have:=Sp (p.drop k).length (by omega)
 omega
def yI (p:List Int) (i t:Nat):Int×Int:=(((p.drop (i+1)).zip (lP (p.drop (i+1)))).take t).foldl (uE (p.getD i 0)) (1,1)
theorem vt {p:List Int} {i t:Nat} (h:i+1+t<p.length):yI p i (t+1)=uE (p.getD i 0) (yI p i t) (p.getD (i+1+t) 0,(lP (p.drop (i+1+t))).getD 0 (0,0)):=by
 have hl:t<((p.drop (i+1)).zip (lP (p.drop (i+1)))).length:=by rw[List.length_zip,iq,List.length_drop];omega
 unfold yI
 rw[List.take_succ_eq_append_getElem hl,List.foldl_append,List.foldl_cons,List.foldl_nil,List.getElem_zip]
 congr 1
 congr 1
 ·rw[List.getElem_drop,ac,ae (by omega)];rfl
 ·have e:=uc (l:=p.drop (i+1)) (k:=t)
  rw[List.drop_drop]at e
  rw[←e,ac,ae (by rw[iq,List.length_drop];omega)];rfl
theorem Dm {p:List Int} {i j:Nat} (h:i+1≤j) (hj:j<p.length):yI p i (j+1 - (i+1))=uE (p.getD i 0) (yI p i (j - (i+1))) (p.getD j 0,(lP (p.drop j)).getD 0 (0,0)):=by
 have:=vt (p:=p) (i:=i) (t:=j - (i+1)) (by omega)
 rwa [show i+1+(j - (i+1))=j by omega,show j - (i+1)+1=j+1 - (i+1)by omega]at this
theorem GR {p:List Int} {i t:Nat} (hi:i<p.length) (h:p.length≤i+1+t):yI p i t=(lP (p.drop i)).getD 0 (0,0):=by
 rw[Mz hi];unfold yI
 rw[ah (by rw[List.length_zip,iq,List.length_drop];omega)]
theorem Jr {p:List Int} (h8:p.length≤8) {i:Nat}:∀{t:Nat},i+1+t≤p.length→0≤(yI p i t).1∧(yI p i t).1≤9∧0≤(yI p i t).2∧(yI p i t).2≤43046721*((t:Int)+1)
 |0,_=>by simp[yI]
 |t+1,h=>by
  have ih:=Jr h8 (i:=i) (t:=t) (by omega)
  have h2:=Jp h8 (k:=i+1+t) (by omega)
  rw[vt (by omega)]
  unfold uE
  split
  ·omega
  ·split
   ·omega
   ·split<;>simp only<;>omega
theorem EX {l:List Int} {i k:Nat} {x:Int} (h:k<l.length):(l.set i x).getD k 0=if i=k then x else l.getD k 0:=by
 rw[ac,List.getElem?_set,ac]
 by_cases e:i=k
 ·rw[if_pos e,if_pos e,if_pos (by omega)];rfl
 ·rw[if_neg e,if_neg e]
theorem qT {m0:Bool} (p:List Int) (h8:p.length≤8):Fun Tryz.prog 131 [(.sl (.lent m0) (List.map (PV.int .i64) (p)))] [(.sl .own (List.map (PV.int .i64) (jX wC p))),(.sl .own (List.map (PV.int .i64) ((lP p).map Prod.snd)))]:=by
 refine fO bA [2,3] Tryz.func131 ?_
 have cD1:=iE [false,false,true,false,false,true,false,false] [(2,3),(2,4),(0,5),(1,5),(2,5),(5,6)];have cD2:=iE [false,false,false,false,false,false,false,false,false,false,false,false,false,false,true,false,true] [(2,14),(3,14)];have cD3:=iE [false,false,false,false,false,false,false,false,false,false,true] []
 rw[←pE]
 refine aQ trivial ?_
 all_goals try(apply aq;repeat' first|exact ao|apply aa|(apply au;intro zb hc)|(apply ar;intro zb)|intro j')<;>try apply aw
 refine az (fun ms1 S1=>∃(i:Nat) (a:List Int) (c:List Int),S1.e 0=.p (.sl (.lent m0) (List.map (PV.int .i64) (p)))∧OwnL (S1.e 4) S1.h S1.n (PV.int .i64) ((a).length) (a)∧OwnL (S1.e 5) S1.h S1.n (PV.int .i64) ((c).length) (c)∧S1.e 6=.p (.int .i64 (((i:Int) - 1)))∧(i≤p.length)∧(a.length=p.length)∧(c.length=p.length)∧(∀k,i≤k→k<p.length→(a.getD k 0,c.getD k 0)=(lP (p.drop k)).getD 0 (0,0))∧NId (S1.e 5) (S1.e 4)∧ms1=i) ((fun(i:Nat) (a:List Int) (c:List Int)=>i) (p.length) (List.replicate p.length 0) (List.replicate p.length 0)) ?_ ⟨p.length,List.replicate p.length 0,List.replicate p.length 0,dC trivial ?_⟩
 all_goals try(apply aq;repeat' first|exact ao|apply aa|(apply au;intro zb hc)|(apply ar;intro zb)|intro j')<;>try apply aw
 rintro ms1 S1 ⟨i,a,c,h1_0,o1_4,o1_5,h1_6,c1_0,c1_1,c1_2,c1_3,u1_0,hm1⟩
 obtain⟨i1_4,h1_4,b1_4,l1_4⟩:=o1_4.out
 obtain⟨i1_5,h1_5,b1_5,l1_5⟩:=o1_5.out
 have k1_0:=(u1_0).out h1_5 h1_4
 have ni1_4:=bi (x:=i1_4) (n:=S1.n)
 have ni1_5:=bi (x:=i1_5) (n:=S1.n)
 have di1_4i1_5:=ds (x:=i1_4) (y:=i1_5)
 have fL1:=(aa h1_0 (aa h1_6 (aa h1_4 (aa b1_4 (aa h1_5 (aa b1_5 (aa ni1_4 (aa ni1_5 di1_4i1_5))))))))
 ·by_cases hi:0<i
  ·obtain⟨x,rfl⟩:∃x,i=x+1:=⟨i - 1,by omega⟩
   have e1:(((x+1:Nat):Int) - 1).toNat=x:=by omega
   have e2:(((x+1:Nat):Int) - 1)+1=((x+1:Nat):Int):=by omega
   refine aQ (aa fL1 (aa @e1 @e2)) ?_
   all_goals try(apply aq;repeat' first|exact ao|apply aa|(apply au;intro zb hc)|(apply ar;intro zb)|intro j')<;>try apply aw
   refine az (fun ms2 S2=>∃(j:Nat) (a:List Int) (c:List Int),S2.e 0=.p (.sl (.lent m0) (List.map (PV.int .i64) (p)))∧OwnL (S2.e 4) S2.h S2.n (PV.int .i64) ((a).length) (a)∧OwnL (S2.e 5) S2.h S2.n (PV.int .i64) ((c).length) (c)∧S2.e 6=.p (.int .i64 ((x:Int)))∧S2.e 7=.p (.int .i64 (j))∧(x+1≤j∧j≤p.length)∧(a.length=p.length)∧(c.length=p.length)∧((∀k,x+1≤k→k<p.length→(a.getD k 0,c.getD k 0)=(lP (p.drop k)).getD 0 (0,0)))∧((a.getD x 0,c.getD x 0)=yI p x (j - (x+1)))∧NId (S2.e 5) (S2.e 4)∧S1.n≤S2.n∧ms2=p.length - j) ((fun(j:Nat) (a:List Int) (c:List Int)=>p.length - j) (x+1) (a.set x 1) (c.set x 1)) ?_ ⟨x+1,a.set x 1,c.set x 1,dC fL1 ?_⟩
   all_goals try(apply aq;repeat' first|exact ao|apply aa|(apply au;intro zb hc)|(apply ar;intro zb)|intro j')<;>try apply aw
   rintro ms2 S2 ⟨j,a,c,h2_0,o2_4,o2_5,h2_6,h2_7,c2_0,c2_1,c2_2,c2_3,c2_4,u2_0,u2_1,hm2⟩
   obtain⟨i2_4,h2_4,b2_4,l2_4⟩:=o2_4.out
   obtain⟨i2_5,h2_5,b2_5,l2_5⟩:=o2_5.out
   have k2_0:=(u2_0).out h2_5 h2_4
   have ni2_4:=bi (x:=i2_4) (n:=S2.n)
   have ni2_5:=bi (x:=i2_5) (n:=S2.n)
   have di2_4i2_5:=ds (x:=i2_4) (y:=i2_5)
   have fL2:=(aa h2_0 (aa h2_6 (aa h2_7 (aa h2_4 (aa b2_4 (aa h2_5 (aa b2_5 (aa ni2_4 (aa ni2_5 di2_4i2_5)))))))))
   ·have b1:=Jr h8 (i:=x) (t:=j - (x+1)) (by omega)
    rw[←c2_4]at b1
    by_cases ht:j<p.length
    ·have b2:=Jp h8 ht
     have b3:=c2_3 j (by omega) ht
     have b4:=Dm c2_0.1 ht
     rw[←c2_4,←b3]at b4
     rw[←b3]at b2
     simp only at b1 b2
     unfold uE at b4
     simp only at b4
     by_cases hA:p.getD j 0<p.getD x 0
     ·rw[if_pos hA]at b4
      refine aQ (aa fL2 @hA) ?_
      all_goals try(apply aq;repeat' first|exact ao|apply aa|(apply au;intro zb hc)|(apply ar;intro zb)|intro j')<;>try apply aw
      focus
       refine ay ((fun(j:Nat) (a:List Int) (c:List Int)=>p.length - j) (j+1) (a) (c)) (dC fL2 ?_) ⟨j+1,a,c,dC fL2 ?_⟩
       all_goals try(apply aq;repeat' first|exact ao|apply aa|(apply au;intro zb hc)|(apply ar;intro zb)|intro j')<;>try apply aw
      all_goals(first|(rw[b4];done)|exact c2_3|skip)
     ·rw[if_neg hA]at b4
      have hA':(p.getD j 0<p.getD x 0)=False:=eq_false hA
      by_cases hB:a.getD j 0+1<a.getD x 0
      ·rw[if_pos hB]at b4
       refine aQ (aa fL2 (aa @hA' @hB)) ?_
       all_goals try(apply aq;repeat' first|exact ao|apply aa|(apply au;intro zb hc)|(apply ar;intro zb)|intro j')<;>try apply aw
       focus
        refine ay ((fun(j:Nat) (a:List Int) (c:List Int)=>p.length - j) (j+1) (a) (c)) (dC fL2 ?_) ⟨j+1,a,c,dC fL2 ?_⟩
        all_goals try(apply aq;repeat' first|exact ao|apply aa|(apply au;intro zb hc)|(apply ar;intro zb)|intro j')<;>try apply aw
       all_goals(first|(rw[b4];done)|exact c2_3|skip)
      ·rw[if_neg hB]at b4
       have hB':(a.getD j 0+1<a.getD x 0)=False:=eq_false hB
       by_cases hC:a.getD x 0<a.getD j 0+1
       ·rw[if_pos hC]at b4
        refine aQ (aa fL2 (aa @hA' (aa @hB' @hC))) ?_
        all_goals try(apply aq;repeat' first|exact ao|apply aa|(apply au;intro zb hc)|(apply ar;intro zb)|intro j')<;>try apply aw
        focus
         refine ay ((fun(j:Nat) (a:List Int) (c:List Int)=>p.length - j) (j+1) (a.set x (a.getD j 0+1)) (c.set x (c.getD j 0))) (dC fL2 ?_) ⟨j+1,a.set x (a.getD j 0+1),c.set x (c.getD j 0),dC fL2 ?_⟩
         all_goals try(apply aq;repeat' first|exact ao|apply aa|(apply au;intro zb hc)|(apply ar;intro zb)|intro j')<;>try apply aw
        all_goals(first|(rw[b4,EX (by omega),EX (by omega),if_pos rfl,if_pos rfl];done)|(intro k hk1 hk2;rw[EX (by omega),EX (by omega),if_neg (by omega),if_neg (by omega)];exact c2_3 k hk1 hk2)|skip)
       ·rw[if_neg hC]at b4
        have hC':(a.getD x 0<a.getD j 0+1)=False:=eq_false hC
        refine aQ (aa fL2 (aa @hA' (aa @hB' @hC'))) ?_
        all_goals try(apply aq;repeat' first|exact ao|apply aa|(apply au;intro zb hc)|(apply ar;intro zb)|intro j')<;>try apply aw
        focus
         refine ay ((fun(j:Nat) (a:List Int) (c:List Int)=>p.length - j) (j+1) (a) (c.set x (c.getD x 0+c.getD j 0))) (dC fL2 ?_) ⟨j+1,a,c.set x (c.getD x 0+c.getD j 0),dC fL2 ?_⟩
         all_goals try(apply aq;repeat' first|exact ao|apply aa|(apply au;intro zb hc)|(apply ar;intro zb)|intro j')<;>try apply aw
        all_goals(first|(rw[b4,EX (by omega),if_pos rfl];done)|(intro k hk1 hk2;rw[EX (by omega),if_neg (by omega)];exact c2_3 k hk1 hk2)|skip)
    ·have b5:=GR (p:=p) (i:=x) (t:=j - (x+1)) (by omega) (by omega)
     rw[←c2_4]at b5
     refine aQ fL2 ?_
     all_goals try(apply aq;repeat' first|exact ao|apply aa|(apply au;intro zb hc)|(apply ar;intro zb)|intro j')<;>try apply aw
     focus
      refine ay ((fun(i:Nat) (a:List Int) (c:List Int)=>i) (x) (a) (c)) (dC fL2 ?_) ⟨x,a,c,dC fL2 ?_⟩
      all_goals try(apply aq;repeat' first|exact ao|apply aa|(apply au;intro zb hc)|(apply ar;intro zb)|intro j')<;>try apply aw
     all_goals(first|(intro k hk1 hk2;rcases Nat.eq_or_lt_of_le hk1 with e|e;(rw[←e];exact b5);exact c2_3 k (by omega) hk2)|skip)
   all_goals(first|(rw[EX (by omega),EX (by omega),if_pos rfl,if_pos rfl];simp[yI];done)|(intro k hk1 hk2;rw[EX (by omega),EX (by omega),if_neg (by omega),if_neg (by omega)];exact c1_3 k hk1 hk2)|skip)
  ·obtain rfl:i=0:=by omega
   have q1:a=(lP p).map Prod.fst:=by
    refine List.ext_getElem (by rw[an,iq,c1_1]) fun k h1 h2=> ?_
    have:=congrArg Prod.fst (c1_3 k (by omega) (by omega))
    rw[←uc]at this
    simp only at this
    rw[ac,ae h1,ac,ae (by rw[iq];omega)]at this
    rw[List.getElem_map];exact this
   have q2:c=(lP p).map Prod.snd:=by
    refine List.ext_getElem (by rw[an,iq,c1_2]) fun k h1 h2=> ?_
    have:=congrArg Prod.snd (c1_3 k (by omega) (by omega))
    rw[←uc]at this
    simp only at this
    rw[ac,ae h1,ac,ae (by rw[iq];omega)]at this
    rw[List.getElem_map];exact this
   refine aQ fL1 ?_
   all_goals try(apply aq;repeat' first|exact ao|apply aa|(apply au;intro zb hc)|(apply ar;intro zb)|intro j')<;>try apply aw
   all_goals(first|exact q1|exact q2|(rw[q1];done)|(rw[q2];done)|skip)
def GQ (p:List Int):Int:=lO (jX wC p)
theorem JH {p:List Int} (h8:p.length≤8):∀v∈jX wC p,0≤v∧v≤8:=fun v hv=>by
 rw[←pE]at hv
 obtain⟨y,hy,rfl⟩:=List.mem_map.1 hv
 have:=Dl h8 y hy;omega
theorem Jo {p:List Int} (h8:p.length≤8):0≤GQ p∧GQ p≤8:=⟨(ka (l:=jX wC p)).1,qC (by omega) fun x hx=>(JH h8 x hx).2⟩
theorem SO {l:List Int} (h:∀v∈l,0≤v) {k:Nat} (hk:k<l.length):lO (l.take (k+1))=max (lO (l.take k)) (l.getD k 0):=by
 rw[aX (d:=0) hk,qB (h _ (aF hk))]
theorem eI {m0:Bool} (p:List Int) (h8:p.length≤8):Fun Tryz.prog 90 [(.sl (.lent m0) (List.map (PV.int .i64) (p)))] [(.int .i64 (GQ p))]:=by
 have hb:=JH h8
 have hl:=iv (R:=wC) (l:=p)
 rw[GQ]
 generalize hL:jX wC p=L at*
 refine fO bA [2] Tryz.func90 ?_
 have cE1:= @qT
 refine aQ @hL ?_
 all_goals try(apply aq;repeat' first|exact ao|apply aa|(apply au;intro zb hc)|(apply ar;intro zb)|intro j')<;>try apply aw
 refine az (fun ms1 S1=>∃(k:Nat),S1.e 5=.p (.int .i64 (lO (L.take k)))∧OwnL (S1.e 13) S1.h S1.n (PV.int .i64) ((L).length) (L)∧S1.e 14=.p (.int .i64 (L.length))∧S1.e 15=.p (.int .i64 (k))∧(k≤L.length)∧ms1=L.length - k) ((fun(k:Nat)=>L.length - k) (0)) ?_ ⟨0,dC trivial ?_⟩
 all_goals try(apply aq;repeat' first|exact ao|apply aa|(apply au;intro zb hc)|(apply ar;intro zb)|intro j')<;>try apply aw
 rintro ms1 S1 ⟨k,h1_5,o1_13,h1_14,h1_15,c1_0,hm1⟩
 obtain⟨i1_13,h1_13,b1_13,l1_13⟩:=o1_13.out
 have ni1_13:=bi (x:=i1_13) (n:=S1.n)
 have fL1:=(aa h1_5 (aa h1_14 (aa h1_15 (aa h1_13 (aa b1_13 ni1_13)))))
 ·have m1:=(ka (l:=L.take k)).1
  have m2:=qC (B:=8) (by omega) (l:=L.take k) fun x hx=>(hb x (List.mem_of_mem_take hx)).2
  by_cases hk:k<L.length
  ·have b2:=hb _ (aF (l:=L) (i:=k) (d:=0) hk)
   have e:=SO (fun v hv=>(hb v hv).1) hk
   refine aQ fL1 ?_
   all_goals try(apply aq;repeat' first|exact ao|apply aa|(apply au;intro zb hc)|(apply ar;intro zb)|intro j')<;>try apply aw
   focus
    refine ay ((fun(k:Nat)=>L.length - k) (k+1)) (dC fL1 ?_) ⟨k+1,dC fL1 ?_⟩
    all_goals try(apply aq;repeat' first|exact ao|apply aa|(apply au;intro zb hc)|(apply ar;intro zb)|intro j')<;>try apply aw
   all_goals(first|(rw[e];done)|skip)
  ·have e:L.take k=L:=ah (by omega)
   refine aQ (aa fL1 @e) ?_
   all_goals try(apply aq;repeat' first|exact ao|apply aa|(apply au;intro zb hc)|(apply ar;intro zb)|intro j')<;>try apply aw
   all_goals(first|(rw[e];done)|skip)
def pV (p:List Int):Int:=if al p=true then GQ p else -1
def rv (p:List Int):Int:=if al p=true then GQ p.reverse else -1
theorem gC {m0:Bool} (p:List Int) (hl:p.length≤1048576):Fun Tryz.prog 45 [(.sl (.lent m0) (List.map (PV.int .i64) (p)))] [(.int .i64 (pV p))]:=by
 by_cases h:al p=true
 ·have h8:=(aK h).1
  rw[pV,if_pos h]
  refine fO bA [2] Tryz.func45 ?_
  have cE1:= @aA;have cE2:= @eI
  refine aQ @h ?_
  all_goals try(apply aq;repeat' first|exact ao|apply aa|(apply au;intro zb hc)|(apply ar;intro zb)|intro j')<;>try apply aw
 ·rw[pV,if_neg h]
  rw[aI]at h
  refine fO bA [2] Tryz.func45 ?_
  have cE1:= @aA;have cE2:= @eI
  refine aQ @h ?_
  all_goals try(apply aq;repeat' first|exact ao|apply aa|(apply au;intro zb hc)|(apply ar;intro zb)|intro j')<;>try apply aw
theorem fw {m0:Bool} (p:List Int) (hl:p.length≤1048576):Fun Tryz.prog 46 [(.sl (.lent m0) (List.map (PV.int .i64) (p)))] [(.int .i64 (rv p))]:=by
 by_cases h:al p=true
 ·have h8:=(aK h).1
  have h9:p.reverse.length≤8:=by rw[aG];exact h8
  rw[rv,if_pos h]
  refine fO bA [2] Tryz.func46 ?_
  have cE1:= @aA;have cE2:= @f8;have cE3:= @eI
  refine aQ @h ?_
  all_goals try(apply aq;repeat' first|exact ao|apply aa|(apply au;intro zb hc)|(apply ar;intro zb)|intro j')<;>try apply aw
 ·rw[rv,if_neg h]
  rw[aI]at h
  refine fO bA [2] Tryz.func46 ?_
  have cE1:= @aA;have cE2:= @f8;have cE3:= @eI
  refine aQ @h ?_
  all_goals try(apply aq;repeat' first|exact ao|apply aa|(apply au;intro zb hc)|(apply ar;intro zb)|intro j')<;>try apply aw
def rl (p E:List Int) (x:Int):Nat→Int
 |0=>1
 |j+1=>if p.getD j 0<x then max (rl p E x j) (E.getD j 0+1)else rl p E x j
def jU (p:List Int):Nat→List Int
 |0=>[]
 |k+1=>jU p k++[rl p (jU p k) (p.getD k 0) k]
theorem uq {p:List Int}:∀{k:Nat},(jU p k).length=k
 |0=>rfl
 |k+1=>by rw[jU,ak,uq];rfl
theorem wa {p E:List Int} {x:Int}:∀{j:Nat},1≤rl p E x j
 |0=>Int.le_refl _
 |j+1=>by have:=wa (p:=p) (E:=E) (x:=x) (j:=j);rw[rl];split<;>omega
theorem Ec {p E:List Int} {x m:Int} (hm:2≤m):∀{j:Nat},m≤rl p E x j↔∃t,t<j∧p.getD t 0<x∧m≤E.getD t 0+1
 |0=>⟨fun h=>by rw[rl]at h;omega,fun⟨t,h,_⟩=>by omega⟩
 |j+1=>by
  have ih:=Ec (p:=p) (E:=E) (x:=x) hm (j:=j)
  rw[rl]
  constructor
  ·intro h
   split at h
   ·rename_i g
    by_cases q:m≤rl p E x j
    ·obtain⟨t,t1,t2⟩:=ih.1 q;exact⟨t,by omega,t2⟩
    ·exact⟨j,by omega,g,by omega⟩
   ·obtain⟨t,t1,t2⟩:=ih.1 h;exact⟨t,by omega,t2⟩
  ·rintro⟨t,t1,t2,t3⟩
   by_cases e:t=j
   ·subst e;rw[if_pos t2];omega
   ·have:=ih.2 ⟨t,by omega,t2,t3⟩
    split<;>omega
theorem Eb {p:List Int}:∀{k:Nat},k≤p.length→jU p k=(jX s6 (p.take k).reverse).reverse
 |0,_=>by simp[jU,jX]
 |k+1,hk=>by
  have ih:=Eb (p:=p) (k:=k) (by omega)
  rw[jU,aX (d:=0) (show k<p.length by omega),List.reverse_append,List.reverse_singleton,List.singleton_append,jX,List.reverse_cons,←ih]
  congr 2
  have hr:(jX s6 (p.take k).reverse)=(jU p k).reverse:=by rw[ih,List.reverse_reverse]
  have hE:=uq (p:=p) (k:=k)
  have hP:(p.take k).length=k:=by rw[aV];omega
  rw[hr]
  have key:∀m:Int,2≤m→(m≤rl p (jU p k) (p.getD k 0) k↔m≤IK s6 (p.getD k 0) ((p.take k).reverse.zip (jU p k).reverse)):=fun m hm=>by
   rw[Ec hm,IK,xU hm]
   constructor
   ·rintro⟨t,t1,t2,t3⟩
    refine .inr ⟨(p.getD t 0,(jU p k).getD t 0), ?_,by simpa[s6]using t2,t3⟩
    have hz:k - 1 - t<((p.take k).reverse.zip (jU p k).reverse).length:=by rw[List.length_zip,aG,aG];omega
    have:((p.take k).reverse.zip (jU p k).reverse)[k - 1 - t]=(p.getD t 0,(jU p k).getD t 0):=by
     rw[List.getElem_zip,List.getElem_reverse,List.getElem_reverse]
     congr 1
     ·rw[List.getElem_take,ac,ae (by omega)]
      simp only[Option.getD_some];congr 1;omega
     ·rw[ac,ae (by omega)]
      simp only[Option.getD_some];congr 1;omega
    rw[←this];exact List.getElem_mem hz
   ·rintro(h|⟨y,h1,h2,h3⟩)
    ·omega
    ·obtain⟨i,hi,e⟩:=bh h1
     rw[List.length_zip,aG,aG]at hi
     rw[List.getElem_zip,List.getElem_reverse,List.getElem_reverse]at e
     refine⟨k - 1 - i,by omega, ?_, ?_⟩
     ·have a1:p.getD (k - 1 - i) 0=y.1:=by
       rw[←e,List.getElem_take,ac,ae (by omega)]
       simp only[Option.getD_some];congr 1;omega
      rw[a1];simpa[s6]using h2
     ·have a2:(jU p k).getD (k - 1 - i) 0=y.2:=by
       rw[←e,ac,ae (by omega)]
       simp only[Option.getD_some];congr 1;omega
      rw[a2];exact h3
  have h1:=wa (p:=p) (E:=jU p k) (x:=p.getD k 0) (j:=k)
  have h2:=Et (R:=s6) (x:=p.getD k 0) (L:=(p.take k).reverse.zip (jU p k).reverse) (v:=1)
  have k1:=key (rl p (jU p k) (p.getD k 0) k)
  have k2:=key (IK s6 (p.getD k 0) ((p.take k).reverse.zip (jU p k).reverse))
  unfold IK at k1 k2 ⊢
  omega
theorem Vd {p:List Int} (hp:p.Nodup):lO (jU p p.length)=GQ p:=by
 rw[Eb (am _),List.take_length,GQ,J9 hp]
 have key:∀m:Nat,(m:Int)+1≤lO (jX s6 p.reverse).reverse↔(m:Int)+1≤lO (jX s6 p.reverse):=fun m=>by
  rw[t6,t6];simp only[List.mem_reverse]
 have h1:=(ka (l:=(jX s6 p.reverse).reverse)).1
 have h2:=(ka (l:=jX s6 p.reverse)).1
 have k1:=key ((lO (jX s6 p.reverse).reverse).toNat - 1)
 have k2:=key ((lO (jX s6 p.reverse)).toNat - 1)
 omega
theorem ur {p E:List Int} {x:Int} {k:Nat} (h:∀t,E.getD t 0≤k):∀{j:Nat},rl p E x j≤k+1
 |0=>by rw[rl];omega
 |j+1=>by
  have:=ur (p:=p) (x:=x) h (j:=j)
  have:=h j
  rw[rl];split<;>omega
theorem JB {p:List Int}:∀{k:Nat},(∀v∈jU p k,1≤v∧v≤k)
 |0=>by simp[jU]
 |k+1=>by
  have ih:=JB (p:=p) (k:=k)
  have hE:∀t,(jU p k).getD t 0≤k:=fun t=>by
   by_cases g:t<(jU p k).length
   ·exact(ih _ (aF g)).2
   ·rw[ac,aO (by omega)];simp
  intro v hv
  rw[jU]at hv
  rcases List.mem_append.1 hv with g|g
  ·have:=ih v g;omega
  ·rw[aP]at g;subst g
   have h1:=wa (p:=p) (E:=jU p k) (x:=p.getD k 0) (j:=k)
   have h2:=ur (p:=p) (x:=p.getD k 0) hE (j:=k)
   omega
theorem ig {m0:Bool} (p:List Int) (h8:p.length≤8) (hn:p.Nodup):Fun Tryz.prog 69 [(.sl (.lent m0) (List.map (PV.int .i64) (p)))] [(.int .i64 (GQ p))]:=by
 rw[←Vd hn]
 refine fO bA [2] Tryz.func69 ?_
 have cE1:= @ij
 refine aQ trivial ?_
 all_goals try(apply aq;repeat' first|exact ao|apply aa|(apply au;intro zb hc)|(apply ar;intro zb)|intro j')<;>try apply aw
 refine az (fun ms1 S1=>∃(k:Nat),S1.e 0=.p (.sl (.lent m0) (List.map (PV.int .i64) (p)))∧S1.e 3=.p (.int .i64 (lO (jU p k)))∧OwnL (S1.e 4) S1.h S1.n (PV.int .i64) ((jU p k).length) (jU p k)∧S1.e 5=.p (.int .i64 (k))∧(k≤p.length)∧ms1=p.length - k) ((fun(k:Nat)=>p.length - k) (0)) ?_ ⟨0,dC trivial ?_⟩
 all_goals try(apply aq;repeat' first|exact ao|apply aa|(apply au;intro zb hc)|(apply ar;intro zb)|intro j')<;>try apply aw
 rintro ms1 S1 ⟨k,h1_0,h1_3,o1_4,h1_5,c1_0,hm1⟩
 obtain⟨i1_4,h1_4,b1_4,l1_4⟩:=o1_4.out
 have ni1_4:=bi (x:=i1_4) (n:=S1.n)
 have fL1:=(aa h1_0 (aa h1_3 (aa h1_5 (aa h1_4 (aa b1_4 ni1_4)))))
 ·have eb:=JB (p:=p) (k:=k)
  have el:=uq (p:=p) (k:=k)
  have m1:=(ka (l:=jU p k)).1
  have m2:=qC (B:=8) (by omega) (l:=jU p k) fun x hx=>by have:=eb x hx;omega
  have hE:∀t,(jU p k).getD t 0≤k:=fun t=>by
   by_cases g:t<(jU p k).length
   ·exact(eb _ (aF g)).2
   ·rw[ac,aO (by omega)];simp
  by_cases hk:k<p.length
  ·have e1:jU p (k+1)=jU p k++[rl p (jU p k) (p.getD k 0) k]:=rfl
   have q1:=wa (p:=p) (E:=jU p k) (x:=p.getD k 0) (j:=k)
   have q2:=ur (p:=p) (x:=p.getD k 0) hE (j:=k)
   have e2:lO (jU p (k+1))=max (lO (jU p k)) (rl p (jU p k) (p.getD k 0) k):=by rw[e1,qB (by omega)]
   generalize hD:jU p k=E at*
   refine aQ fL1 ?_
   all_goals try(apply aq;repeat' first|exact ao|apply aa|(apply au;intro zb hc)|(apply ar;intro zb)|intro j')<;>try apply aw
   refine az (fun ms2 S2=>∃(j:Nat),S2.e 0=.p (.sl (.lent m0) (List.map (PV.int .i64) (p)))∧S2.e 3=.p (.int .i64 (lO E))∧OwnL (S2.e 4) S2.h S2.n (PV.int .i64) ((E).length) (E)∧S2.e 5=.p (.int .i64 (k))∧S2.e 6=.p (.int .i64 (rl p E (p.getD k 0) j))∧S2.e 7=.p (.int .i64 (j))∧(j≤k)∧S1.n≤S2.n∧ms2=k - j) ((fun(j:Nat)=>k - j) (0)) ?_ ⟨0,dC fL1 ?_⟩
   all_goals try(apply aq;repeat' first|exact ao|apply aa|(apply au;intro zb hc)|(apply ar;intro zb)|intro j')<;>try apply aw
   rintro ms2 S2 ⟨j,h2_0,h2_3,o2_4,h2_5,h2_6,h2_7,c2_0,u2_0,hm2⟩
   obtain⟨i2_4,h2_4,b2_4,l2_4⟩:=o2_4.out
   have ni2_4:=bi (x:=i2_4) (n:=S2.n)
   have fL2:=(aa h2_0 (aa h2_3 (aa h2_5 (aa h2_6 (aa h2_7 (aa h2_4 (aa b2_4 ni2_4)))))))
   ·have r1:=wa (p:=p) (E:=E) (x:=p.getD k 0) (j:=j)
    have r2:=ur (p:=p) (x:=p.getD k 0) hE (j:=j)
    by_cases hj:j<k
    ·have b2:=eb _ (aF (l:=E) (i:=j) (d:=0) (by omega))
     by_cases hv:p.getD j 0<p.getD k 0
     ·have e3:rl p E (p.getD k 0) (j+1)=max (rl p E (p.getD k 0) j) (E.getD j 0+1):=by rw[rl,if_pos hv]
      refine aQ (aa fL2 @hv) ?_
      all_goals try(apply aq;repeat' first|exact ao|apply aa|(apply au;intro zb hc)|(apply ar;intro zb)|intro j')<;>try apply aw
      focus
       refine ay ((fun(j:Nat)=>k - j) (j+1)) (dC fL2 ?_) ⟨j+1,dC fL2 ?_⟩
       all_goals try(apply aq;repeat' first|exact ao|apply aa|(apply au;intro zb hc)|(apply ar;intro zb)|intro j')<;>try apply aw
      all_goals(first|(rw[e3];done)|skip)
     ·have e3:rl p E (p.getD k 0) (j+1)=rl p E (p.getD k 0) j:=by rw[rl,if_neg hv]
      have hv':(p.getD j 0<p.getD k 0)=False:=eq_false hv
      refine aQ (aa fL2 @hv') ?_
      all_goals try(apply aq;repeat' first|exact ao|apply aa|(apply au;intro zb hc)|(apply ar;intro zb)|intro j')<;>try apply aw
      focus
       refine ay ((fun(j:Nat)=>k - j) (j+1)) (dC fL2 ?_) ⟨j+1,dC fL2 ?_⟩
       all_goals try(apply aq;repeat' first|exact ao|apply aa|(apply au;intro zb hc)|(apply ar;intro zb)|intro j')<;>try apply aw
      all_goals(first|(rw[e3];done)|skip)
    ·obtain rfl:j=k:=by omega
     refine aQ fL2 ?_
     all_goals try(apply aq;repeat' first|exact ao|apply aa|(apply au;intro zb hc)|(apply ar;intro zb)|intro j')<;>try apply aw
     focus
      refine ay ((fun(k:Nat)=>p.length - k) (j+1)) (dC fL2 ?_) ⟨j+1,dC fL2 ?_⟩
      all_goals try(apply aq;repeat' first|exact ao|apply aa|(apply au;intro zb hc)|(apply ar;intro zb)|intro j')<;>try apply aw
     all_goals(first|(rw[e1];done)|(rw[e2];done)|(rw[e1,ak];rfl)|skip)
  ·obtain rfl:k=p.length:=by omega
   refine aQ fL1 ?_
   all_goals try(apply aq;repeat' first|exact ao|apply aa|(apply au;intro zb hc)|(apply ar;intro zb)|intro j')<;>try apply aw
theorem yw {p:List Int} (h:al p=true):p.Nodup:=(permB_iff.1 (aK h).2).2
theorem gv {m0:Bool} (p:List Int) (hl:p.length≤1048576):Fun Tryz.prog 31 [(.sl (.lent m0) (List.map (PV.int .i64) (p)))] [(.int .i64 (pV p))]:=by
 by_cases h:al p=true
 ·have h8:=(aK h).1
  have hn:=yw h
  rw[pV,if_pos h]
  refine fO bA [2] Tryz.func31 ?_
  have cE1:= @aD;have cE2:= @ig
  refine aQ @h ?_
  all_goals try(apply aq;repeat' first|exact ao|apply aa|(apply au;intro zb hc)|(apply ar;intro zb)|intro j')<;>try apply aw
 ·rw[pV,if_neg h]
  rw[aI]at h
  refine fO bA [2] Tryz.func31 ?_
  have cE1:= @aD;have cE2:= @ig
  refine aQ @h ?_
  all_goals try(apply aq;repeat' first|exact ao|apply aa|(apply au;intro zb hc)|(apply ar;intro zb)|intro j')<;>try apply aw
theorem ft {m0:Bool} (p:List Int) (hl:p.length≤1048576):Fun Tryz.prog 32 [(.sl (.lent m0) (List.map (PV.int .i64) (p)))] [(.int .i64 (rv p))]:=by
 by_cases h:al p=true
 ·have h8:=(aK h).1
  have h9:p.reverse.length≤8:=by rw[aG];exact h8
  have hn:p.reverse.Nodup:=(List.reverse_perm p).nodup_iff.2 (yw h)
  rw[rv,if_pos h]
  refine fO bA [2] Tryz.func32 ?_
  have cE1:= @aD;have cE2:= @bC;have cE3:= @ig
  refine aQ @h ?_
  all_goals try(apply aq;repeat' first|exact ao|apply aa|(apply au;intro zb hc)|(apply ar;intro zb)|intro j')<;>try apply aw
 ·rw[rv,if_neg h]
  rw[aI]at h
  refine fO bA [2] Tryz.func32 ?_
  have cE1:= @aD;have cE2:= @bC;have cE3:= @ig
  refine aQ @h ?_
  all_goals try(apply aq;repeat' first|exact ao|apply aa|(apply au;intro zb hc)|(apply ar;intro zb)|intro j')<;>try apply aw
def Oc (q:List (List Int)):PV:=.sl (.lent false) (List.map (bW false) q)
theorem Ob {q:List (List Int)}:Oc q=.sl (.lent false) (List.map (bW false) q):=_root_.id rfl
theorem Ma {l:List (List (List Int))} {x:List (List Int)} {r:List PV}:List.map Oc l++(PV.sl (.lent false) (List.map (bW false) x)::r)=List.map Oc (l++[x])++r:=by simp[Oc]
instance:NDf Oc:=⟨by intro a rows h;cases h⟩
theorem LD {l:List (List Int)}:noRo (Oc l)=true:=cZ (fun _=>CT) l
theorem Gq {l:List (List (List Int))}:noRoL (l.map Oc)=true:=cZ (fun _=>LD) l
attribute [go_sem] Ob Ma Gq
theorem jk {m0:Bool} (p:List Int) (hl:p.length≤1048576) (hn:al p=false):Fun Tryz.prog 126 [(.sl (.lent m0) (List.map (PV.int .i64) (p)))] [(.sl .own (List.map (bW false) ([])))]:=by
 refine fO bA [2] Tryz.func126 ?_
 have cE1:= @ij;have cE2:= @aD;have cE3:= @gr
 refine aQ @hn ?_
 all_goals try(apply aq;repeat' first|exact ao|apply aa|(apply au;intro zb hc)|(apply ar;intro zb)|intro j')<;>try apply aw
def B5 (l:List Int):Bool:=(List.range l.length).all fun i=>decide (i=0)||decide (l.getD (i - 1) 0≤l.getD i 0)
theorem srtB_iff {l:List Int}:B5 l=true↔∀i,i<l.length→0<i→l.getD (i - 1) 0≤l.getD i 0:=by
 simp only[B5,List.all_eq_true,List.mem_range,Bool.or_eq_true,decide_eq_true_eq]
 constructor
 ·intro h i hi h0;rcases h i hi with h|h
  ·omega
  ·exact h
 ·intro h i hi
  by_cases h0:i=0
  ·exact .inl h0
  ·exact .inr (h i hi (by omega))
theorem rB (x:Int) (y:Int):Fun Tryz.prog 199 [(.int .i64 (x)),(.int .i64 (y))] [(.bool (decide (x<y)))]:=by
 refine fO bA [4] Tryz.func199 ?_
 have cE1:= @ku
 refine aQ trivial ?_
 all_goals try(apply aq;repeat' first|exact ao|apply aa|(apply au;intro zb hc)|(apply ar;intro zb)|intro j')<;>try apply aw
theorem i7 {m0:Bool} (l:List Int) (hl:l.length≤1048576):Fun Tryz.prog 172 [(.sl (.lent m0) (List.map (PV.int .i64) (l)))] [(.bool (B5 l))]:=by
 refine fO bA [2] Tryz.func172 ?_
 have cE1:= @rB;have cD1:=iE [false,false,false,false,false,false,false,false,false,true] []
 refine aQ trivial ?_
 all_goals try(apply aq;repeat' first|exact ao|apply aa|(apply au;intro zb hc)|(apply ar;intro zb)|intro j')<;>try apply aw
 refine az (fun ms1 S1=>∃(k:Nat),S1.e 0=.p (.sl (.lent m0) (List.map (PV.int .i64) (l)))∧S1.e 3=.p (.int .i64 (k - 1))∧(k≤l.length)∧(∀i,k≤i→i<l.length→0<i→l.getD (i - 1) 0≤l.getD i 0)∧ms1=k) ((fun(k:Nat)=>k) (l.length)) ?_ ⟨l.length,kj trivial ?_⟩
 all_goals try(apply aq;repeat' first|exact ao|apply aa|(apply au;intro zb hc)|(apply ar;intro zb)|intro j')<;>try apply aw
 rintro ms1 S1 ⟨k,h1_0,h1_3,c1_0,c1_1,hm1⟩
 have fL1:=(aa h1_0 h1_3)
 have e1:((k:Int) - 1).toNat=k - 1:=by omega
 have e2:((k:Int) - 1 - 1).toNat=k - 1 - 1:=by omega
 refine aQ fL1 ?_
 all_goals try(apply aq;repeat' first|exact ao|apply aa|(apply au;intro zb hc)|(apply ar;intro zb)|intro j')<;>try apply aw
 ·refine(Bool.eq_false_iff.2 fun h=> ?_).symm
  have:=srtB_iff.1 h (k - 1) (by omega) (by omega)
  rw[e1,e2]at hc;omega
 ·focus
   refine ay ((fun(k:Nat)=>k) (k-1)) (dC fL1 ?_) ⟨k-1,dC fL1 ?_⟩
   all_goals try(apply aq;repeat' first|exact ao|apply aa|(apply au;intro zb hc)|(apply ar;intro zb)|intro j')<;>try apply aw
  intro i h1 h2 h3
  by_cases h4:i=k - 1
  ·subst h4;rw[e1,e2]at hc;exact hc
  ·exact c1_1 i (by omega) h2 h3
 ·refine(srtB_iff.2 fun i h1 h2=>c1_1 i (by omega) h1 h2).symm
def zN (p:List Int):Bool:=decide (p=ou p.length)
def EY (p:List Int):Bool:=decide (p.reverse=ou p.length)
theorem xw {n i:Nat} (h:i<n):(ou n).getD i 0=(i:Int)+1:=by
 rw[ac,ou,ax,List.getElem?_range h];rfl
theorem B4 {p:List Int} (hp:bD p=true):B5 p=zN p:=by
 obtain⟨h1,h2⟩:=permB_iff.1 hp
 rw[Bool.eq_iff_iff,srtB_iff,zN,decide_eq_true_iff]
 constructor
 ·intro hs
  have lt:∀i,i+1<p.length→p.getD i 0<p.getD (i+1) 0:=fun i hi=>by
   have a:=hs (i+1) hi (by omega)
   rw[Nat.add_sub_cancel]at a
   have b:p.getD i 0≠p.getD (i+1) 0:=fun e=>by have:=CF hp (by omega) hi e;omega
   omega
  have lo:∀i,i<p.length→(i:Int)+1≤p.getD i 0:=fun i=>by
   induction i with
   |zero=>intro hi;have:=(h1 _ (aF (d:=0) hi)).1;omega
   |succ i ih=>intro hi;have:=ih (by omega);have:=lt i hi;omega
  have hi:∀d i,i+d+1=p.length→p.getD i 0≤(i:Int)+1:=fun d=>by
   induction d with
   |zero=>intro i h;have:=(h1 _ (aF (d:=0) (show i<p.length by omega))).2;omega
   |succ d ih=>intro i h;have:=ih (i+1) (by omega);have:=lt i (by omega);omega
  refine List.ext_getElem (by rw[gD]) fun i a b=> ?_
  have x1:=lo i a
  have x2:=hi (p.length - i - 1) i (by omega)
  have x3:=xw a
  rw[ac,ae a]at x1 x2
  rw[ac,ae b]at x3
  simp at x1 x2 x3;omega
 ·intro e i h3 h4
  have x1:=xw (n:=p.length) (i:=i - 1) (by omega)
  have x2:=xw (n:=p.length) (i:=i) h3
  rw[←e]at x1 x2;omega
theorem dS {m0:Bool} (p:List Int) (hp:al p=true):Fun Tryz.prog 134 [(.sl (.lent m0) (List.map (PV.int .i64) (p)))] [(.bool (zN p))]:=by
 refine fO bA [2] Tryz.func134 ?_
 have cE1:= @i7
 obtain⟨h8,hq⟩:p.length≤8∧bD p=true:=by simpa[al]using hp
 refine aQ trivial ?_
 all_goals try(apply aq;repeat' first|exact ao|apply aa|(apply au;intro zb hc)|(apply ar;intro zb)|intro j')<;>try apply aw
 all_goals exact B4 hq
theorem Og {p:List Int}:decide (p=(ou p.length).reverse)=EY p:=by
 rw[EY,decide_eq_decide]
 exact⟨fun h=>by rw[h,List.reverse_reverse,aG,gD],fun h=>by rw[←h,List.reverse_reverse]⟩
theorem oq {m0:Bool} (p:List Int) (hp:al p=true):Fun Tryz.prog 142 [(.sl (.lent m0) (List.map (PV.int .i64) (p)))] [(.bool (EY p))]:=by
 refine fO bA [2] Tryz.func142 ?_
 have cE1:= @ph;have cE2:= @f8;have cE3:= @bV
 obtain⟨h8,hq⟩:p.length≤8∧bD p=true:=by simpa[al]using hp
 have e1:(ou p.length).length=p.length:=gD
 have e2:(ou p.length).reverse.length=p.length:=by rw[aG,gD]
 have e3:List.take p.length (ou p.length)=ou p.length:=ah (by omega)
 have e4:List.take p.length (ou p.length).reverse=(ou p.length).reverse:=ah (by omega)
 refine aQ (aa @e1 (aa @e2 (aa @e3 @e4))) ?_
 all_goals try(apply aq;repeat' first|exact ao|apply aa|(apply au;intro zb hc)|(apply ar;intro zb)|intro j')<;>try apply aw
 all_goals exact Og
theorem dA {m0:Bool} (p:List Int) (hp:p.length≤8):Fun Tryz.prog 71 [(.sl (.lent m0) (List.map (PV.int .i64) (p)))] [(.bool (zN p))]:=by
 refine fO bA [2] Tryz.func71 ?_
 have cE1:= @bJ;have cE2:= @bT
 have e1:(ou p.length).length=p.length:=gD
 have e3:List.take p.length (ou p.length)=ou p.length:=ah (by omega)
 refine aQ (aa @e1 @e3) ?_
 all_goals try(apply aq;repeat' first|exact ao|apply aa|(apply au;intro zb hc)|(apply ar;intro zb)|intro j')<;>try apply aw
 all_goals rfl
theorem to {a b:Int}:∀{l:List Int},l.Nodup→[a,b].Sublist l→[b,a].Sublist l→False
 |[],_,h,_=>by cases h
 |x::l,hn,h1,h2=>by
  obtain⟨n1,n2⟩:=List.nodup_cons.1 hn
  rcases List.sublist_cons_iff.1 h1 with g1|⟨r1,e1,g1⟩
  ·rcases List.sublist_cons_iff.1 h2 with g2|⟨r2,e2,g2⟩
   ·exact to n2 g1 g2
   ·cases e2;exact n1 (g1.subset (by simp))
  ·cases e1
   rcases List.sublist_cons_iff.1 h2 with g2|⟨r2,e2,g2⟩
   ·exact n1 (g2.subset (by simp))
   ·cases e2;exact n1 (g1.subset (by simp))
theorem BG {a b:Int} (ne:a≠b):∀{l:List Int},a∈l→b∈l→[a,b].Sublist l∨[b,a].Sublist l
 |[],h,_=>by cases h
 |x::l,ha,hb=>by
  rcases List.mem_cons.1 ha with e1|g1
  ·rcases List.mem_cons.1 hb with e2|g2
   ·exact absurd (e1.trans e2.symm) ne
   ·subst e1;exact .inl ((List.singleton_sublist.2 g2).cons_cons _)
  ·rcases List.mem_cons.1 hb with e2|g2
   ·subst e2;exact .inr ((List.singleton_sublist.2 g1).cons_cons _)
   ·rcases BG ne g1 g2 with h|h
    ·exact .inl (h.cons _)
    ·exact .inr (h.cons _)
theorem Em {α:Type} {f g:α→Bool}:∀{l:List α},(∀x∈l,f x=true→g x=true)→(∃x∈l,f x=false∧g x=true)→l.countP f<l.countP g
 |[],_,⟨x,h,_⟩=>by cases h
 |y::l,h,⟨x,hx,h1,h2⟩=>by
  have hm:l.countP f≤l.countP g:=List.countP_mono_left fun x hx=>h x (aY _ hx)
  rw[List.countP_cons,List.countP_cons]
  rcases List.mem_cons.1 hx with e|g1
  ·subst e;rw[h1,h2];simp;omega
  ·have:=Em (fun x hx=>h x (aY _ hx)) ⟨x,g1,h1,h2⟩
   have hy:=h y List.mem_cons_self
   cases hf:f y with
   |true=>rw[hy hf];simp;omega
   |false=>cases g y<;>simp<;>omega
def CC (n:Nat):List (Nat×Nat):=(List.range n).flatMap fun i=>(List.range n).map fun j=>(i,j)
def wE (p:List Int):Nat:=(CC p.length).countP fun x=>decide (x.1<x.2)&&decide ([(x.2:Int)+1,(x.1:Int)+1].Sublist p)
theorem prs2_mem {n i j:Nat}:(i,j)∈CC n↔i<n∧j<n:=by
 unfold CC
 simp only[List.mem_flatMap,List.mem_map,List.mem_range,Prod.mk.injEq]
 constructor
 ·rintro⟨a,h1,b,h2,e1,e2⟩;omega
 ·rintro⟨h1,h2⟩;exact⟨i,h1,j,h2,rfl,rfl⟩
theorem DS {α β:Type} {f:α→List β} {n:Nat} (h:∀x,(f x).length=n):∀{l:List α},(l.flatMap f).length=l.length*n
 |[]=>by simp
 |x::l=>by rw[List.flatMap_cons,ak,h,DS h,aC,Nat.succ_mul];omega
theorem CB {n:Nat}:(CC n).length=n*n:=by
 unfold CC;rw[DS (n:=n) (fun x=>by simp),List.length_range]
theorem xk {p:List Int}:wE p≤p.length*p.length:=by rw[←CB];exact List.countP_le_length
theorem Di {p q:List Int} (hp:bD p=true) (hq:bD q=true) (hl:q.length=p.length) (h1:∀a b,a<b→[a,b].Sublist p→[a,b].Sublist q)
  (h2:∃a b,a<b∧[b,a].Sublist p∧[a,b].Sublist q):wE q<wE p:=by
 obtain⟨p1,p2⟩:=permB_iff.1 hp
 obtain⟨q1,q2⟩:=permB_iff.1 hq
 unfold wE
 rw[hl]
 refine Em (fun x hx hc=> ?_) ?_
 ·obtain⟨i,j⟩:=x
  obtain⟨x1,x2⟩:=prs2_mem.1 hx
  simp only[Bool.and_eq_true,decide_eq_true_eq]at hc ⊢
  refine⟨hc.1, ?_⟩
  rcases BG (a:=(i:Int)+1) (b:=(j:Int)+1) (l:=p) (by omega) (vd hp (by omega) (by omega)) (vd hp (by omega) (by omega))with g|g
  ·exact absurd (h1 _ _ (by omega) g) fun g'=>to q2 g' hc.2
  ·exact g
 ·obtain⟨a,b,ab,s1,s2⟩:=h2
  have ha:=p1 a (s1.subset (by simp))
  have hb:=p1 b (s1.subset (by simp))
  refine⟨((a - 1).toNat,(b - 1).toNat),prs2_mem.2 ⟨by omega,by omega⟩, ?_, ?_⟩
  ·rw[Bool.and_eq_false_iff];right
   rw[decide_eq_false_iff_not]
   simp only
   rw[show(((b - 1).toNat:Nat):Int)+1=b by omega,show(((a - 1).toNat:Nat):Int)+1=a by omega]
   exact fun g=>to q2 s2 g
  ·simp only[Bool.and_eq_true,decide_eq_true_eq]
   rw[show(((b - 1).toNat:Nat):Int)+1=b by omega,show(((a - 1).toNat:Nat):Int)+1=a by omega]
   exact⟨by omega,s1⟩
theorem CY {p:List Int} (hp:bD p=true) (h:zN p=false):∃X Y a b,a<b∧p=X++b::a::Y:=by
 have h1:¬B5 p=true:=by rw[B4 hp,h];decide
 rw[srtB_iff]at h1
 obtain⟨i,h2⟩:=Classical.not_forall.1 h1
 obtain⟨hi,h3⟩:=Classical.not_forall.1 h2
 obtain⟨hi0,h4⟩:=Classical.not_forall.1 h3
 obtain⟨k,rfl⟩:∃k,i=k+1:=⟨i - 1,by omega⟩
 refine⟨p.take k,p.drop (k+1+1),p.getD (k+1) 0,p.getD k 0,by simp only[Nat.add_sub_cancel]at h4;omega, ?_⟩
 rw[←bH hi,←bH (by omega),List.take_append_drop]
def rP:List Int→List Int→List Int
 |[],st=>st
 |x::xs,st=>st.takeWhile (fun y=>decide (y<x))++rP xs (x::st.dropWhile (fun y=>decide (y<x)))
theorem m5:∀{xs st:List Int},(rP xs st).Perm (xs++st)
 |[],st=>List.Perm.refl _
 |x::xs,st=>by
  rw[rP]
  refine(List.Perm.append_left _ (m5 (xs:=xs))).trans ?_
  have h:(st.takeWhile (fun y=>decide (y<x))++(xs++x::st.dropWhile (fun y=>decide (y<x)))).Perm (x::(xs++(st.takeWhile (fun y=>decide (y<x))++st.dropWhile (fun y=>decide (y<x))))):=by
   refine(List.Perm.append_left _ List.perm_middle).trans ?_
   refine List.perm_middle.trans (List.Perm.cons _ ?_)
   rw[←aB,←aB]
   exact List.Perm.append_right _ List.perm_append_comm
  rw[List.takeWhile_append_dropWhile]at h
  exact h
theorem tA {a b:Int} {A B:List Int} (ha:a∈A) (hb:b∈B):[a,b].Sublist (A++B):=by
 have:=(List.singleton_sublist.2 ha).append (List.singleton_sublist.2 hb)
 exact this
theorem Cc {a b:Int}:∀{xs st:List Int},[a,b].Sublist st→[a,b].Sublist (rP xs st)
 |[],_,h=>h
 |x::xs,st,h=>by
  rw[rP]
  have e:st=st.takeWhile (fun y=>decide (y<x))++st.dropWhile (fun y=>decide (y<x)):=List.takeWhile_append_dropWhile.symm
  rw[e]at h
  obtain⟨l1,l2,e1,s1,s2⟩:=List.sublist_append_iff.1 h
  match l1,e1 with
  |[],e1=>
   simp only[aR]at e1;subst e1
   exact(Cc (xs:=xs) (s2.cons _)).trans (List.sublist_append_right _ _)
  |[y],e1=>
   simp only[List.singleton_append,List.cons.injEq]at e1
   obtain⟨rfl,rfl⟩:=e1
   refine tA (s1.subset (by simp)) ((m5 (xs:=xs)).mem_iff.2 ?_)
   have:=s2.subset (show b∈[b]by simp)
   simp[this]
  |[y,z],e1=>
   simp only[List.cons_append,aR,List.cons.injEq]at e1
   obtain⟨rfl,rfl,_⟩:=e1
   exact s1.trans (List.sublist_append_left _ _)
  |_::_::_::_,e1=>simp at e1
theorem Cd {a b:Int} (ab:a<b):∀{xs st:List Int},st.Pairwise (·≤·)→a∈st→b∈xs→[a,b].Sublist (rP xs st)
 |[],_,_,_,h=>by cases h
 |x::xs,st,hs,ha,hb=>by
  rw[rP]
  have e:st=st.takeWhile (fun y=>decide (y<x))++st.dropWhile (fun y=>decide (y<x)):=List.takeWhile_append_dropWhile.symm
  have hs':=hs
  rw[e]at ha hs'
  by_cases hm:a∈st.takeWhile (fun y=>decide (y<x))
  ·refine tA hm ((m5 (xs:=xs)).mem_iff.2 ?_)
   rcases List.mem_cons.1 hb with e'|g
   ·subst e';simp
   ·simp[g]
  ·have hd:a∈st.dropWhile (fun y=>decide (y<x)):=by
    rcases List.mem_append.1 ha with g|g
    ·exact absurd g hm
    ·exact g
   have hge:∀y∈st.dropWhile (fun y=>decide (y<x)),x≤y:=by
    have h2:=(List.pairwise_append.1 hs').2.1
    intro y hy
    cases hD:st.dropWhile (fun y=>decide (y<x))with
    |nil=>rw[hD]at hy;cases hy
    |cons z zs=>
     have hz:¬z<x:=by
      have:=List.head_dropWhile_not (fun y=>decide (y<x)) (l:=st) (by rw[hD];simp)
      simp only[hD,List.head_cons]at this
      simpa using this
     rw[hD]at hy h2
     rcases List.mem_cons.1 hy with e'|g
     ·omega
     ·have:=(List.pairwise_cons.1 h2).1 y g;omega
   have hx:=hge a hd
   rcases List.mem_cons.1 hb with e'|g
   ·omega
   ·exact(Cd ab (List.pairwise_cons.2 ⟨hge,(List.pairwise_append.1 hs').2.1⟩) (by simp[hd]) g).trans (List.sublist_append_right _ _)
theorem uO {x:Int} {st:List Int} (hs:st.Pairwise (·≤·)):(x::st.dropWhile (fun y=>decide (y<x))).Pairwise (·≤·):=by
 have hs':=hs
 rw[show st=st.takeWhile (fun y=>decide (y<x))++st.dropWhile (fun y=>decide (y<x))from List.takeWhile_append_dropWhile.symm]at hs'
 have h2:=(List.pairwise_append.1 hs').2.1
 refine List.pairwise_cons.2 ⟨fun y hy=> ?_,h2⟩
 cases hD:st.dropWhile (fun y=>decide (y<x))with
 |nil=>rw[hD]at hy;cases hy
 |cons z zs=>
  have hz:¬z<x:=by
   have:=List.head_dropWhile_not (fun y=>decide (y<x)) (l:=st) (by rw[hD];simp)
   simp only[hD,List.head_cons]at this
   simpa using this
  rw[hD]at hy h2
  rcases List.mem_cons.1 hy with e'|g
  ·omega
  ·have:=(List.pairwise_cons.1 h2).1 y g;omega
theorem Ce {a b:Int} (ab:a<b):∀{xs st:List Int},st.Pairwise (·≤·)→[a,b].Sublist xs→[a,b].Sublist (rP xs st)
 |[],_,_,h=>by cases h
 |x::xs,st,hs,h=>by
  rw[rP]
  refine List.Sublist.trans ?_ (List.sublist_append_right _ _)
  rcases List.sublist_cons_iff.1 h with g|⟨r,e,g⟩
  ·exact Ce ab (uO hs) g
  ·cases e
   exact Cd ab (uO hs) (by simp) (g.subset (by simp))
theorem uP {a b:Int} (ab:a<b) {Y:List Int}:∀{X st:List Int},[a,b].Sublist (rP (X++b::a::Y) st)
 |[],st=>by
  rw[aR,rP,rP]
  have e:(b::st.dropWhile (fun y=>decide (y<b))).dropWhile (fun y=>decide (y<a))=b::st.dropWhile (fun y=>decide (y<b)):=by
   rw[List.dropWhile_cons,if_neg (by simp;omega)]
  rw[e]
  refine List.Sublist.trans ?_ (List.sublist_append_right _ _)
  refine List.Sublist.trans ?_ (List.sublist_append_right _ _)
  exact Cc (((List.nil_sublist _).cons_cons b).cons_cons a)
 |x::X,st=>by
  rw[List.cons_append,rP]
  exact(uP ab (X:=X)).trans (List.sublist_append_right _ _)
theorem yu {p q:List Int} (hp:bD p=true) (h:q.Perm p):bD q=true:=by
 obtain⟨h1,h2⟩:=permB_iff.1 hp
 exact permB_iff.2 ⟨fun v hv=>by rw[h.length_eq];exact h1 v (h.mem_iff.1 hv),h.nodup_iff.2 h2⟩
def oH (p:List Int):List Int:=rP p []
theorem Cf {p:List Int} (hp:bD p=true):bD (oH p)=true∧(oH p).length=p.length∧(zN p=false→wE (oH p)<wE p):=by
 have h:=m5 (xs:=p) (st:=[])
 rw[aN]at h
 have hq:=yu hp h
 refine⟨hq,h.length_eq,fun hu=>Di hp hq h.length_eq (fun a b ab g=>Ce ab List.Pairwise.nil g) ?_⟩
 obtain⟨X,Y,a,b,ab,e⟩:=CY hp hu
 refine⟨a,b,ab, ?_, ?_⟩
 ·rw[e];exact(((List.nil_sublist _).cons_cons a).cons_cons b).trans (List.sublist_append_right _ _)
 ·rw[oH,e];exact uP ab
def kO:List Int→List Int→List Int
 |[],st=>st
 |x::xs,[]=>kO xs [x]
 |x::xs,y::st=>if x<y then kO xs (x::y::st)else(y::st)++kO xs [x]
theorem kN:∀{xs st:List Int},(kO xs st).Perm (xs++st)
 |[],st=>by cases st<;>exact List.Perm.refl _
 |x::xs,[]=>by
  rw[kO,aN]
  exact(kN (xs:=xs)).trans (List.perm_append_comm)
 |x::xs,y::st=>by
  rw[kO]
  split
  ·exact(kN (xs:=xs)).trans List.perm_middle
  ·refine(List.Perm.append_left _ (kN (xs:=xs))).trans ?_
   refine List.perm_append_comm.trans ?_
   rw[aB]
   exact List.perm_middle.trans (List.Perm.refl _)
theorem tR:∀{xs st:List Int},st.Sublist (kO xs st)
 |[],st=>by cases st<;>exact List.Sublist.refl _
 |x::xs,[]=>List.nil_sublist _
 |x::xs,y::st=>by
  rw[kO]
  split
  ·exact(List.sublist_cons_self x _).trans (tR (xs:=xs))
  ·exact List.sublist_append_left _ _
theorem tS {a b:Int} (ab:a<b):∀{xs st:List Int},st.Pairwise (·≤·)→a∈st→b∈xs→[a,b].Sublist (kO xs st)
 |[],_,_,_,h=>by cases h
 |x::xs,[],_,h,_=>by cases h
 |x::xs,y::st,hs,ha,hb=>by
  have hy:y≤a:=by
   rcases List.mem_cons.1 ha with e|g
   ·omega
   ·exact(List.pairwise_cons.1 hs).1 a g
  rw[kO]
  split
  ·rename_i hx
   refine tS ab (List.pairwise_cons.2 ⟨fun z hz=> ?_,hs⟩) (by simp[List.mem_cons.1 ha]) ?_
   ·rcases List.mem_cons.1 hz with e|g
    ·omega
    ·have:=(List.pairwise_cons.1 hs).1 z g;omega
   ·rcases List.mem_cons.1 hb with e|g
    ·omega
    ·exact g
  ·refine tA ha ((kN (xs:=xs)).mem_iff.2 ?_)
   rcases List.mem_cons.1 hb with e|g
   ·simp[e]
   ·simp[g]
theorem tT {a b:Int} (ab:a<b):∀{xs st:List Int},st.Pairwise (·≤·)→[a,b].Sublist xs→[a,b].Sublist (kO xs st)
 |[],_,_,h=>by cases h
 |x::xs,[],_,h=>by
  rw[kO]
  rcases List.sublist_cons_iff.1 h with g|⟨r,e,g⟩
  ·exact tT ab (by simp) g
  ·cases e;exact tS ab (by simp) (by simp) (g.subset (by simp))
 |x::xs,y::st,hs,h=>by
  rw[kO]
  split
  ·rename_i hx
   have hs':(x::y::st).Pairwise (·≤·):=List.pairwise_cons.2 ⟨fun z hz=>by
    rcases List.mem_cons.1 hz with e|g
    ·omega
    ·have:=(List.pairwise_cons.1 hs).1 z g;omega,hs⟩
   rcases List.sublist_cons_iff.1 h with g|⟨r,e,g⟩
   ·exact tT ab hs' g
   ·cases e;exact tS ab hs' (by simp) (g.subset (by simp))
  ·refine List.Sublist.trans ?_ (List.sublist_append_right _ _)
   rcases List.sublist_cons_iff.1 h with g|⟨r,e,g⟩
   ·exact tT ab (by simp) g
   ·cases e;exact tS ab (by simp) (by simp) (g.subset (by simp))
theorem na {a b:Int} (ab:a<b) {Y:List Int}:∀{X st:List Int},[a,b].Sublist (kO (X++b::a::Y) st)
 |[],[]=>by
  rw[aR,kO,kO,if_pos ab];exact tR
 |[],y::st=>by
  rw[aR,kO]
  split
  ·rw[kO,if_pos ab]
   exact(((List.nil_sublist _).cons_cons b).cons_cons a).trans tR
  ·refine List.Sublist.trans ?_ (List.sublist_append_right _ _)
   rw[kO,if_pos ab];exact tR
 |x::X,[]=>by rw[List.cons_append,kO];exact na ab (X:=X)
 |x::X,y::st=>by
  rw[List.cons_append,kO]
  split
  ·exact na ab (X:=X)
  ·exact(na ab (X:=X)).trans (List.sublist_append_right _ _)
def nW (p:List Int):List Int:=kO p []
theorem CD {p:List Int} (hp:bD p=true):bD (nW p)=true∧(nW p).length=p.length∧(zN p=false→wE (nW p)<wE p):=by
 have h:=kN (xs:=p) (st:=[])
 rw[aN]at h
 have hq:=yu hp h
 refine⟨hq,h.length_eq,fun hu=>Di hp hq h.length_eq (fun a b ab g=>tT ab List.Pairwise.nil g) ?_⟩
 obtain⟨X,Y,a,b,ab,e⟩:=CY hp hu
 refine⟨a,b,ab, ?_, ?_⟩
 ·rw[e];exact(((List.nil_sublist _).cons_cons a).cons_cons b).trans (List.sublist_append_right _ _)
 ·rw[nW,e];exact na ab
def uD (f:List Int→List Int):Nat→List Int→Int
 |0,_=>0
 |d+1,p=>if zN p=true then 0 else 1+uD f d (f p)
theorem Je {f:List Int→List Int}:∀{d:Nat} {p:List Int},0≤uD f d p∧uD f d p≤d
 |0,_=>by simp[uD]
 |d+1,p=>by have:=Je (f:=f) (d:=d) (p:=f p);rw[uD];split<;>omega
theorem wM {f:List Int→List Int} {d:Nat} {p:List Int} (h:zN p=true):uD f d p=0:=by cases d<;>simp[uD,h]
end Go.Gl
namespace Go.Gl
open Go Go.Proofs Go.Sort
variable [Amb]
theorem uX:ES Tryz.prog 133 List.reverse:=by
 refine⟨⟨_,Tryz.func133,rfl,rfl⟩,fun l=>aG,fun w a cap=> ?_,fun w B off cap l cs E lo hi hc hs hf hm hx=> ?_⟩
 ·exact(Tryz.slices_Reverse_int_empty a cap w).mono fun e w' h=>⟨h.1,w.drawn,am _,by rw[h.2]⟩
 ·have hg:∀j (h:j<l.length),cs[off+j]? =some (.int .i64 l[j]):=fun j h=>hx j _ (ae h)
  refine(Tryz.slices_Reverse_int B off cap l w ?_ (Nat.le_trans hm (by decide))).mono fun e w' h=>⟨h.1, ?_⟩
  ·intro j hj
   simp only[List.size_toArray]at hj
   constructor
   ·simp only[World.cell?,hc,Option.isSome_none,Bool.false_eq_true,if_false]
    rw[hg j hj]
    simp[hj]
   ·simp only[World.frozen?,hc]
    rcases hf with hf|hf
    ·simp;omega
    ·simp;omega
  ·obtain⟨n,rfl⟩:=h.2
   refine⟨w.drawn+n,by omega, ?_⟩
   have hlt:B<w.heap.size:=(Array.getElem?_eq_some_iff.1 hc).1
   have hh:(mapBlock (Go.Sort.ahead w n) B (putCells (Value.int .i64) off l.reverse.toArray)).heap=(w.setRow B (cs.toList.take off++(l.reverse).map (Value.int .i64)++cs.toList.drop (off+l.length)).toArray).heap:=by
    apply Array.ext_getElem?
    intro k
    simp only[mapBlock,Go.Sort.ahead,World.setRow,Array.getElem?_modify]
    by_cases e:B=k
    ·subst e
     rw[if_pos rfl,if_pos rfl,hc]
     simp only[Option.map_some,onCells]
     congr 2
     apply Array.ext_getElem?
     intro i
     simp only[putCells,Array.getElem?_mapIdx,List.getElem?_toArray,List.size_toArray,aG]
     rw[aB,List.getElem?_append]
     have htk:(cs.toList.take off).length=off:=by simp;omega
     rw[htk]
     by_cases h1:i<off
     ·rw[if_pos h1,be,if_pos h1]
      cases q:cs[i]? with
      |none=>simp[q]
      |some v=>simp only[Option.map_some,Array.getElem?_toList,q];rw[if_neg (by omega)]
     ·rw[if_neg h1,List.getElem?_append,an,aG]
      by_cases h2:i - off<l.length
      ·rw[if_pos h2,ax,Array.getElem?_eq_getElem (by omega)]
       simp only[Option.map_some]
       rw[if_pos ⟨by omega,by omega⟩,ae (by simpa using h2)]
       simp[h2]
      ·rw[if_neg h2,aW,show off+l.length+(i - off - l.length)=i by omega]
       cases q:cs[i]? with
       |none=>simp[q]
       |some v=>simp only[Option.map_some,Array.getElem?_toList,q];rw[if_neg (by omega)]
    ·rw[if_neg e,if_neg e]
   exact congrArg (fun H=>({w with heap:=H,drawn:=w.drawn+n}:World)) hh
end Go.Gl
namespace Go.Gl
open Go Go.Proofs
variable [Amb] [NoQ]
theorem uN {x:Int} {xs st:List Int}:rP (x::xs) st=st.takeWhile (fun y=>decide (y<x))++rP xs (x::st.dropWhile (fun y=>decide (y<x))):=rfl
theorem Qm {x y:Int} {st:List Int} (h:y<x):(y::st).takeWhile (fun y=>decide (y<x))=y::st.takeWhile (fun y=>decide (y<x)):=by rw[List.takeWhile_cons,if_pos (by simpa using h)]
theorem Vh {x y:Int} {st:List Int} (h:y<x):(y::st).dropWhile (fun y=>decide (y<x))=st.dropWhile (fun y=>decide (y<x)):=by rw[List.dropWhile_cons,if_pos (by simpa using h)]
theorem Qn {x y:Int} {st:List Int} (h:¬y<x):(y::st).takeWhile (fun y=>decide (y<x))=[]:=by rw[List.takeWhile_cons,if_neg (by simpa using h)]
theorem Vi {x y:Int} {st:List Int} (h:¬y<x):(y::st).dropWhile (fun y=>decide (y<x))=y::st:=by rw[List.dropWhile_cons,if_neg (by simpa using h)]
theorem Rq {y:Int} {st junk:List Int}:(st++[y]++junk).getD st.length 0=y:=by
 rw[ac,aB,aM (am _),Nat.sub_self];rfl
theorem To (l:List Int):l=[]∨∃r y,l=r++[y]:=by
 rcases List.eq_nil_or_concat l with h|⟨r,y,h⟩
 ·exact .inl h
 ·exact .inr ⟨r,y,by rw[h,List.concat_eq_append]⟩
def uS:FuncId→List Bool:=fun f=>if f=12884902021 then[true]else[]
theorem Ft {f:FuncId}:uS f=if f=12884902021 then[true]else[]:=_root_.id rfl
theorem Bm:gk uS=false∧gG uS=false∧gF uS=false∧gE uS=false∧gH uS=false:=⟨rfl,rfl,rfl,rfl,rfl⟩
attribute [go_sem] Ft Bm
theorem gB {m0:Bool} (p:List Int) (hl:p.length≤8):Fun Tryz.prog 93 [(.sl (.lent m0) (List.map (PV.int .i64) (p)))] [(.sl .own (List.map (PV.int .i64) (oH p)))]:=by
 refine fO uS [2] Tryz.func93 ?_
 have cM1:= @dn;have cD1:=iE [false,false,false,false,false,false,false,true,true,false,false,false,false,false,false,false] [(0,7),(7,9),(8,9),(7,10),(8,10),(7,11),(8,11),(7,12),(8,12),(7,13),(8,13)]
 have hr:=uX
 have cM2:= @hr
 refine aQ trivial ?_
 all_goals try(apply aq;repeat' first|exact ao|apply aa|(apply au;intro zb hc)|(apply ar;intro zb)|intro j')<;>try apply aw
 refine az (fun ms1 S1=>∃(i:Nat) (out:List Int) (st:List Int) (junk:List Int),OwnL (S1.e 3) S1.h S1.n (PV.int .i64) ((out).length) (out)∧OwnL (S1.e 4) S1.h S1.n (PV.int .i64) (st.length) (st++junk)∧S1.e 9=.p (.sl (.lent m0) (List.map (PV.int .i64) (p)))∧S1.e 10=.p (.int .i64 (p.length))∧S1.e 11=.p (.int .i64 (i))∧(i≤p.length)∧(out++rP (p.drop i) st.reverse=oH p)∧(out.length+st.length=i)∧(st.length+junk.length≤i)∧NId (S1.e 4) (S1.e 3)∧ms1=p.length - i) ((fun(i:Nat) (out:List Int) (st:List Int) (junk:List Int)=>p.length - i) (0) ([]) ([]) ([])) ?_ ⟨0,[],[],[],dC trivial ?_⟩
 all_goals try(apply aq;repeat' first|exact ao|apply aa|(apply au;intro zb hc)|(apply ar;intro zb)|intro j')<;>try apply aw
 rintro ms1 S1 ⟨i,out,st,junk,o1_3,o1_4,h1_9,h1_10,h1_11,c1_0,c1_1,c1_2,c1_3,u1_0,hm1⟩
 obtain⟨i1_3,h1_3,b1_3,l1_3⟩:=o1_3.out
 obtain⟨i1_4,h1_4,b1_4,l1_4⟩:=o1_4.out
 have k1_0:=(u1_0).out h1_4 h1_3
 have ni1_3:=bi (x:=i1_3) (n:=S1.n)
 have ni1_4:=bi (x:=i1_4) (n:=S1.n)
 have di1_3i1_4:=ds (x:=i1_3) (y:=i1_4)
 have fL1:=(aa h1_9 (aa h1_10 (aa h1_11 (aa h1_3 (aa b1_3 (aa h1_4 (aa b1_4 (aa ni1_3 (aa ni1_4 di1_3i1_4)))))))))
 ·by_cases hi:i<p.length
  ·rw[bH hi,uN]at c1_1
   have cM2:= @hr
   refine aQ fL1 ?_
   all_goals try(apply aq;repeat' first|exact ao|apply aa|(apply au;intro zb hc)|(apply ar;intro zb)|intro j')<;>try apply aw
   refine az (fun ms2 S2=>∃(o2:List Int) (s2:List Int) (j2:List Int),OwnL (S2.e 3) S2.h S2.n (PV.int .i64) ((o2).length) (o2)∧OwnL (S2.e 4) S2.h S2.n (PV.int .i64) (s2.length) (s2++j2)∧S2.e 6=.p (.int .i64 ((p.getD i 0)))∧S2.e 9=.p (.sl (.lent m0) (List.map (PV.int .i64) (p)))∧S2.e 10=.p (.int .i64 (p.length))∧S2.e 11=.p (.int .i64 (i))∧(o2++(s2.reverse.takeWhile (fun y=>decide (y<p.getD i 0))++rP (p.drop (i+1)) (p.getD i 0::s2.reverse.dropWhile (fun y=>decide (y<p.getD i 0))))=oH p)∧(o2.length+s2.length=i)∧(s2.length+j2.length≤i)∧NId (S2.e 4) (S2.e 3)∧S1.n≤S2.n∧ms2=s2.length) ((fun(o2:List Int) (s2:List Int) (j2:List Int)=>s2.length) (out) (st) (junk)) ?_ ⟨out,st,junk,dC fL1 ?_⟩
   all_goals try(apply aq;repeat' first|exact ao|apply aa|(apply au;intro zb hc)|(apply ar;intro zb)|intro j')<;>try apply aw
   rintro ms2 S2 ⟨o2,s2,j2,o2_3,o2_4,h2_6,h2_9,h2_10,h2_11,c2_0,c2_1,c2_2,u2_0,u2_1,hm2⟩
   obtain⟨i2_3,h2_3,b2_3,l2_3⟩:=o2_3.out
   obtain⟨i2_4,h2_4,b2_4,l2_4⟩:=o2_4.out
   have k2_0:=(u2_0).out h2_4 h2_3
   have ni2_3:=bi (x:=i2_3) (n:=S2.n)
   have ni2_4:=bi (x:=i2_4) (n:=S2.n)
   have di2_3i2_4:=ds (x:=i2_3) (y:=i2_4)
   have fL2:=(aa h2_6 (aa h2_9 (aa h2_10 (aa h2_11 (aa h2_3 (aa b2_3 (aa h2_4 (aa b2_4 (aa ni2_3 (aa ni2_4 di2_3i2_4))))))))))
   ·have push:(s2.reverse.takeWhile (fun y=>decide (y<p.getD i 0))=[])→s2.reverse.dropWhile (fun y=>decide (y<p.getD i 0))=s2.reverse→o2++rP (p.drop (i+1)) (s2++[p.getD i 0]).reverse=oH p:=fun h1 h2=>by
     rw[h1,h2]at c2_0;rw[List.reverse_append];exact c2_0
    rcases To s2 with rfl|⟨r,y,rfl⟩
    ·have q1:=push rfl rfl
     cases j2 with
     |nil=>
      have cM2:= @hr
      refine aQ fL2 ?_
      all_goals try(apply aq;repeat' first|exact ao|apply aa|(apply au;intro zb hc)|(apply ar;intro zb)|intro j')<;>try apply aw
      focus
       refine ay ((fun(i:Nat) (out:List Int) (st:List Int) (junk:List Int)=>p.length - i) (i+1) (o2) ([p.getD i 0]) ([])) (dC fL2 ?_) ⟨i+1,o2,[p.getD i 0],[],dC fL2 ?_⟩
       all_goals try(apply aq;repeat' first|exact ao|apply aa|(apply au;intro zb hc)|(apply ar;intro zb)|intro j')<;>try apply aw
      all_goals(first|exact q1|skip)
     |cons z zs=>
      have cM2:= @hr
      refine aQ fL2 ?_
      all_goals try(apply aq;repeat' first|exact ao|apply aa|(apply au;intro zb hc)|(apply ar;intro zb)|intro j')<;>try apply aw
      focus
       refine ay ((fun(i:Nat) (out:List Int) (st:List Int) (junk:List Int)=>p.length - i) (i+1) (o2) ([p.getD i 0]) (zs)) (dC fL2 ?_) ⟨i+1,o2,[p.getD i 0],zs,dC fL2 ?_⟩
       all_goals try(apply aq;repeat' first|exact ao|apply aa|(apply au;intro zb hc)|(apply ar;intro zb)|intro j')<;>try apply aw
      all_goals(first|exact q1|(simp only[List.length_nil,aC]at c2_2;omega)|skip)
    ·have g2:(((r.length+1:Nat):Int) - 1).toNat=r.length:=by omega
     have g1:(r++y::j2).getD r.length 0=y:=by
      have:=Rq (y:=y) (st:=r) (junk:=j2)
      rwa [aB]at this
     have g3:(r++[y]).reverse=y::r.reverse:=by simp
     have g4:(r++[y]).length=r.length+1:=by simp
     rw[g3]at c2_0 push
     by_cases hy:y<p.getD i 0
     ·rw[Qm hy,Vh hy]at c2_0
      have cM2:= @hr
      refine aQ (aa fL2 (aa @g1 (aa @g2 (aa @g4 @hy)))) ?_
      all_goals try(apply aq;repeat' first|exact ao|apply aa|(apply au;intro zb hc)|(apply ar;intro zb)|intro j')<;>try apply aw
      focus
       refine ay ((fun(o2:List Int) (s2:List Int) (j2:List Int)=>s2.length) (o2++[y]) (r) (y::j2)) (dC fL2 ?_) ⟨o2++[y],r,y::j2,dC fL2 ?_⟩
       all_goals try(apply aq;repeat' first|exact ao|apply aa|(apply au;intro zb hc)|(apply ar;intro zb)|intro j')<;>try apply aw
      all_goals(first|exact c2_0|(rw[aB];exact c2_0)|(rw[g1];done)|(simp only[ak,List.length_nil,aC]at c2_1 c2_2 ⊢;omega)|skip)
     ·have q1:=push (Qn hy) (Vi hy)
      have hy':(y<p.getD i 0)=False:=eq_false hy
      cases j2 with
      |nil=>
       have g6:(r.length+1=(r++[y]).length)=True:=eq_true (by simp)
       have cM2:= @hr
       refine aQ (aa fL2 (aa @g1 (aa @g2 (aa @g4 (aa @g6 @hy'))))) ?_
       all_goals try(apply aq;repeat' first|exact ao|apply aa|(apply au;intro zb hc)|(apply ar;intro zb)|intro j')<;>try apply aw
       focus
        refine ay ((fun(i:Nat) (out:List Int) (st:List Int) (junk:List Int)=>p.length - i) (i+1) (o2) (r++[y]++[p.getD i 0]) ([])) (dC fL2 ?_) ⟨i+1,o2,r++[y]++[p.getD i 0],[],dC fL2 ?_⟩
        all_goals try(apply aq;repeat' first|exact ao|apply aa|(apply au;intro zb hc)|(apply ar;intro zb)|intro j')<;>try apply aw
       all_goals(first|exact q1|(rw[show r++[y,p.getD i 0]=r++[y]++[p.getD i 0]by simp];exact q1)|(simp only[ak,List.length_nil,aC]at c2_1 c2_2 ⊢;omega)|skip)
      |cons z zs=>
       have g6:(r.length+1=(r++y::z::zs).length)=False:=eq_false (by simp)
       have g7:(r.length+2≤(r++y::z::zs).length)=True:=eq_true (by simp)
       have g8:List.take (r.length+1) (r++y::z::zs)=r++[y]:=by rw[show r++y::z::zs=(r++[y])++z::zs by simp,List.take_append_of_le_length (by simp),ah (by simp)]
       have g9:List.drop (r.length+2) (r++y::z::zs)=zs:=by rw[show r++y::z::zs=(r++[y,z])++zs by simp,List.drop_append_of_le_length (by simp),aL (by simp)];rfl
       have cM2:= @hr
       refine aQ (aa fL2 (aa @g1 (aa @g2 (aa @g4 (aa @g6 (aa @g7 (aa @g8 (aa @g9 @hy')))))))) ?_
       all_goals try(apply aq;repeat' first|exact ao|apply aa|(apply au;intro zb hc)|(apply ar;intro zb)|intro j')<;>try apply aw
       focus
        refine ay ((fun(i:Nat) (out:List Int) (st:List Int) (junk:List Int)=>p.length - i) (i+1) (o2) (r++[y]++[p.getD i 0]) (zs)) (dC fL2 ?_) ⟨i+1,o2,r++[y]++[p.getD i 0],zs,dC fL2 ?_⟩
        all_goals try(apply aq;repeat' first|exact ao|apply aa|(apply au;intro zb hc)|(apply ar;intro zb)|intro j')<;>try apply aw
       all_goals(first|exact q1|(rw[show r++[y,p.getD i 0]=r++[y]++[p.getD i 0]by simp];exact q1)|(simp only[ak,List.length_nil,aC]at c2_1 c2_2 ⊢;omega)|skip)
  ·obtain rfl:i=p.length:=by omega
   have e9:List.drop p.length p=[]:=List.drop_length
   rw[e9]at c1_1
   have eT:List.take st.length (st++junk)=st:=by rw[List.take_append_of_le_length (am _),List.take_length]
   have eU:List.take st.length (st.reverse++List.drop st.length (st++junk))=st.reverse:=by rw[List.take_append_of_le_length (by simp),ah (by simp)]
   have eV:st.reverse.length=st.length:=aG
   have cM2:= @hr
   refine aQ (aa fL1 (aa @eT (aa @eU @eV))) ?_
   all_goals try(apply aq;repeat' first|exact ao|apply aa|(apply au;intro zb hc)|(apply ar;intro zb)|intro j')<;>try apply aw
   all_goals(first|(rw[ah (by simp)];exact c1_1)|(simp;done)|skip)
theorem kE {m0:Bool} (p:List Int) (hl:p.length≤8):Fun Tryz.prog 72 [(.sl (.lent m0) (List.map (PV.int .i64) (p)))] [(.sl .own (List.map (PV.int .i64) (oH p)))]:=by
 refine fO bA [2] Tryz.func72 ?_
 have cE1:= @bC
 refine aQ trivial ?_
 all_goals try(apply aq;repeat' first|exact ao|apply aa|(apply au;intro zb hc)|(apply ar;intro zb)|intro j')<;>try apply aw
 refine az (fun ms1 S1=>∃(i:Nat) (out:List Int) (st:List Int) (junk:List Int),OwnL (S1.e 3) S1.h S1.n (PV.int .i64) ((out).length) (out)∧OwnL (S1.e 4) S1.h S1.n (PV.int .i64) (st.length) (st++junk)∧S1.e 0=.p (.sl (.lent m0) (List.map (PV.int .i64) (p)))∧S1.e 5=.p (.int .i64 (i))∧(i≤p.length)∧(out++rP (p.drop i) st.reverse=oH p)∧(out.length+st.length=i)∧(st.length+junk.length≤i)∧NId (S1.e 4) (S1.e 3)∧ms1=p.length - i) ((fun(i:Nat) (out:List Int) (st:List Int) (junk:List Int)=>p.length - i) (0) ([]) ([]) ([])) ?_ ⟨0,[],[],[],dC trivial ?_⟩
 all_goals try(apply aq;repeat' first|exact ao|apply aa|(apply au;intro zb hc)|(apply ar;intro zb)|intro j')<;>try apply aw
 rintro ms1 S1 ⟨i,out,st,junk,o1_3,o1_4,h1_0,h1_5,c1_0,c1_1,c1_2,c1_3,u1_0,hm1⟩
 obtain⟨i1_3,h1_3,b1_3,l1_3⟩:=o1_3.out
 obtain⟨i1_4,h1_4,b1_4,l1_4⟩:=o1_4.out
 have k1_0:=(u1_0).out h1_4 h1_3
 have ni1_3:=bi (x:=i1_3) (n:=S1.n)
 have ni1_4:=bi (x:=i1_4) (n:=S1.n)
 have di1_3i1_4:=ds (x:=i1_3) (y:=i1_4)
 have fL1:=(aa h1_0 (aa h1_5 (aa h1_3 (aa b1_3 (aa h1_4 (aa b1_4 (aa ni1_3 (aa ni1_4 di1_3i1_4))))))))
 ·by_cases hi:i<p.length
  ·rw[bH hi,uN]at c1_1
   refine aQ fL1 ?_
   all_goals try(apply aq;repeat' first|exact ao|apply aa|(apply au;intro zb hc)|(apply ar;intro zb)|intro j')<;>try apply aw
   refine az (fun ms2 S2=>∃(o2:List Int) (s2:List Int) (j2:List Int),OwnL (S2.e 3) S2.h S2.n (PV.int .i64) ((o2).length) (o2)∧OwnL (S2.e 4) S2.h S2.n (PV.int .i64) (s2.length) (s2++j2)∧S2.e 0=.p (.sl (.lent m0) (List.map (PV.int .i64) (p)))∧S2.e 5=.p (.int .i64 (i))∧(o2++(s2.reverse.takeWhile (fun y=>decide (y<p.getD i 0))++rP (p.drop (i+1)) (p.getD i 0::s2.reverse.dropWhile (fun y=>decide (y<p.getD i 0))))=oH p)∧(o2.length+s2.length=i)∧(s2.length+j2.length≤i)∧NId (S2.e 4) (S2.e 3)∧S1.n≤S2.n∧ms2=s2.length) ((fun(o2:List Int) (s2:List Int) (j2:List Int)=>s2.length) (out) (st) (junk)) ?_ ⟨out,st,junk,dC fL1 ?_⟩
   all_goals try(apply aq;repeat' first|exact ao|apply aa|(apply au;intro zb hc)|(apply ar;intro zb)|intro j')<;>try apply aw
   rintro ms2 S2 ⟨o2,s2,j2,o2_3,o2_4,h2_0,h2_5,c2_0,c2_1,c2_2,u2_0,u2_1,hm2⟩
   obtain⟨i2_3,h2_3,b2_3,l2_3⟩:=o2_3.out
   obtain⟨i2_4,h2_4,b2_4,l2_4⟩:=o2_4.out
   have k2_0:=(u2_0).out h2_4 h2_3
   have ni2_3:=bi (x:=i2_3) (n:=S2.n)
   have ni2_4:=bi (x:=i2_4) (n:=S2.n)
   have di2_3i2_4:=ds (x:=i2_3) (y:=i2_4)
   have fL2:=(aa h2_0 (aa h2_5 (aa h2_3 (aa b2_3 (aa h2_4 (aa b2_4 (aa ni2_3 (aa ni2_4 di2_3i2_4))))))))
   ·have push:(s2.reverse.takeWhile (fun y=>decide (y<p.getD i 0))=[])→s2.reverse.dropWhile (fun y=>decide (y<p.getD i 0))=s2.reverse→o2++rP (p.drop (i+1)) (s2++[p.getD i 0]).reverse=oH p:=fun h1 h2=>by
     rw[h1,h2]at c2_0;rw[List.reverse_append];exact c2_0
    rcases To s2 with rfl|⟨r,y,rfl⟩
    ·have q1:=push rfl rfl
     cases j2 with
     |nil=>
      refine aQ fL2 ?_
      all_goals try(apply aq;repeat' first|exact ao|apply aa|(apply au;intro zb hc)|(apply ar;intro zb)|intro j')<;>try apply aw
      focus
       refine ay ((fun(i:Nat) (out:List Int) (st:List Int) (junk:List Int)=>p.length - i) (i+1) (o2) ([p.getD i 0]) ([])) (dC fL2 ?_) ⟨i+1,o2,[p.getD i 0],[],dC fL2 ?_⟩
       all_goals try(apply aq;repeat' first|exact ao|apply aa|(apply au;intro zb hc)|(apply ar;intro zb)|intro j')<;>try apply aw
      all_goals(first|exact q1|skip)
     |cons z zs=>
      refine aQ fL2 ?_
      all_goals try(apply aq;repeat' first|exact ao|apply aa|(apply au;intro zb hc)|(apply ar;intro zb)|intro j')<;>try apply aw
      focus
       refine ay ((fun(i:Nat) (out:List Int) (st:List Int) (junk:List Int)=>p.length - i) (i+1) (o2) ([p.getD i 0]) (zs)) (dC fL2 ?_) ⟨i+1,o2,[p.getD i 0],zs,dC fL2 ?_⟩
       all_goals try(apply aq;repeat' first|exact ao|apply aa|(apply au;intro zb hc)|(apply ar;intro zb)|intro j')<;>try apply aw
      all_goals(first|exact q1|(simp only[List.length_nil,aC]at c2_2;omega)|skip)
    ·have g2:(((r.length+1:Nat):Int) - 1).toNat=r.length:=by omega
     have g1:(r++y::j2).getD r.length 0=y:=by
      have:=Rq (y:=y) (st:=r) (junk:=j2)
      rwa [aB]at this
     have g3:(r++[y]).reverse=y::r.reverse:=by simp
     have g4:(r++[y]).length=r.length+1:=by simp
     rw[g3]at c2_0 push
     by_cases hy:y<p.getD i 0
     ·rw[Qm hy,Vh hy]at c2_0
      refine aQ (aa fL2 (aa @g1 (aa @g2 (aa @g4 @hy)))) ?_
      all_goals try(apply aq;repeat' first|exact ao|apply aa|(apply au;intro zb hc)|(apply ar;intro zb)|intro j')<;>try apply aw
      focus
       refine ay ((fun(o2:List Int) (s2:List Int) (j2:List Int)=>s2.length) (o2++[y]) (r) (y::j2)) (dC fL2 ?_) ⟨o2++[y],r,y::j2,dC fL2 ?_⟩
       all_goals try(apply aq;repeat' first|exact ao|apply aa|(apply au;intro zb hc)|(apply ar;intro zb)|intro j')<;>try apply aw
      all_goals(first|exact c2_0|(rw[aB];exact c2_0)|(rw[g1];done)|(simp only[ak,List.length_nil,aC]at c2_1 c2_2 ⊢;omega)|skip)
     ·have q1:=push (Qn hy) (Vi hy)
      have hy':(y<p.getD i 0)=False:=eq_false hy
      cases j2 with
      |nil=>
       have g6:(r.length+1=(r++[y]).length)=True:=eq_true (by simp)
       refine aQ (aa fL2 (aa @g1 (aa @g2 (aa @g4 (aa @g6 @hy'))))) ?_
       all_goals try(apply aq;repeat' first|exact ao|apply aa|(apply au;intro zb hc)|(apply ar;intro zb)|intro j')<;>try apply aw
       focus
        refine ay ((fun(i:Nat) (out:List Int) (st:List Int) (junk:List Int)=>p.length - i) (i+1) (o2) (r++[y]++[p.getD i 0]) ([])) (dC fL2 ?_) ⟨i+1,o2,r++[y]++[p.getD i 0],[],dC fL2 ?_⟩
        all_goals try(apply aq;repeat' first|exact ao|apply aa|(apply au;intro zb hc)|(apply ar;intro zb)|intro j')<;>try apply aw
       all_goals(first|exact q1|(rw[show r++[y,p.getD i 0]=r++[y]++[p.getD i 0]by simp];exact q1)|(simp only[ak,List.length_nil,aC]at c2_1 c2_2 ⊢;omega)|skip)
      |cons z zs=>
       have g6:(r.length+1=(r++y::z::zs).length)=False:=eq_false (by simp)
       have g7:(r.length+2≤(r++y::z::zs).length)=True:=eq_true (by simp)
       have g8:List.take (r.length+1) (r++y::z::zs)=r++[y]:=by rw[show r++y::z::zs=(r++[y])++z::zs by simp,List.take_append_of_le_length (by simp),ah (by simp)]
       have g9:List.drop (r.length+2) (r++y::z::zs)=zs:=by rw[show r++y::z::zs=(r++[y,z])++zs by simp,List.drop_append_of_le_length (by simp),aL (by simp)];rfl
       refine aQ (aa fL2 (aa @g1 (aa @g2 (aa @g4 (aa @g6 (aa @g7 (aa @g8 (aa @g9 @hy')))))))) ?_
       all_goals try(apply aq;repeat' first|exact ao|apply aa|(apply au;intro zb hc)|(apply ar;intro zb)|intro j')<;>try apply aw
       focus
        refine ay ((fun(i:Nat) (out:List Int) (st:List Int) (junk:List Int)=>p.length - i) (i+1) (o2) (r++[y]++[p.getD i 0]) (zs)) (dC fL2 ?_) ⟨i+1,o2,r++[y]++[p.getD i 0],zs,dC fL2 ?_⟩
        all_goals try(apply aq;repeat' first|exact ao|apply aa|(apply au;intro zb hc)|(apply ar;intro zb)|intro j')<;>try apply aw
       all_goals(first|exact q1|(rw[show r++[y,p.getD i 0]=r++[y]++[p.getD i 0]by simp];exact q1)|(simp only[ak,List.length_nil,aC]at c2_1 c2_2 ⊢;omega)|skip)
  ·obtain rfl:i=p.length:=by omega
   have e9:List.drop p.length p=[]:=List.drop_length
   rw[e9]at c1_1
   have eT:List.take st.length (st++junk)=st:=by rw[List.take_append_of_le_length (am _),List.take_length]
   have eU:List.take st.length (st.reverse++List.drop st.length (st++junk))=st.reverse:=by rw[List.take_append_of_le_length (by simp),ah (by simp)]
   have eV:st.reverse.length=st.length:=aG
   refine aQ (aa fL1 (aa @eT (aa @eU @eV))) ?_
   all_goals try(apply aq;repeat' first|exact ao|apply aa|(apply au;intro zb hc)|(apply ar;intro zb)|intro j')<;>try apply aw
   all_goals(first|(rw[ah (l:=st.reverse) (by simp),ah (by simp)];exact c1_1)|(simp;done)|skip)
def tt (f:List Int→List Int) (p:List Int):Int:=if al p=true then uD f 64 p else -1
theorem sn {f:List Int→List Int} {p:List Int}: -1≤tt f p∧tt f p≤64:=by
 unfold tt;split
 ·have:=Je (f:=f) (d:=64) (p:=p);omega
 ·omega
theorem dx {m0:Bool} (p:List Int) (g:FuncId) (f:List Int→List Int) (hp:al p=true) (hf:∀q,bD q=true→q.length=p.length→bD (f q)=true∧(f q).length=q.length∧(zN q=false→wE (f q)<wE q)) (hg:∀(m:Bool) (q:List Int),q.length≤8→bD q=true→Fun Tryz.prog g [.sl (.lent m) (List.map (PV.int .i64) q)] [.sl .own (List.map (PV.int .i64) (f q))]):Fun Tryz.prog 92 [(.sl (.lent m0) (List.map (PV.int .i64) (p))),(.fn g [] [])] [(.int .i64 (uD f 64 p))]:=by
 refine fO bA [4] Tryz.func92 ?_
 have cE1:= @dS
 obtain⟨h8,hq⟩:=aK hp
 have h64:wE p≤64:=Nat.le_trans xk (Nat.mul_le_mul h8 h8)
 refine aQ trivial ?_
 all_goals try(apply aq;repeat' first|exact ao|apply aa|(apply au;intro zb hc)|(apply ar;intro zb)|intro j')<;>try apply aw
 refine az (fun ms1 S1=>∃(b:Bool) (id:Nat) (q:List Int) (k:Nat) (d:Nat),S1.e 0=(bif b then AV.p (.sl (.lent m0) (List.map (PV.int .i64) q))else AV.ref id 0 q.length)∧S1.e 1=.p (.fn g [] [])∧S1.e 5=.p (.int .i64 (k))∧(bD q=true)∧(q.length=p.length)∧((k:Int)+uD f d q=uD f 64 p)∧(wE q≤d)∧(k+d=64)∧(b=true∨(id<S1.n∧S1.h id=.live false (List.map (PV.int .i64) q)))∧ms1=d) ((fun(b:Bool) (id:Nat) (q:List Int) (k:Nat) (d:Nat)=>d) (true) (0) (p) (0) (64)) ?_ ⟨true,0,p,0,64,dC trivial ?_⟩
 all_goals try(apply aq;repeat' first|exact ao|apply aa|(apply au;intro zb hc)|(apply ar;intro zb)|intro j')<;>try apply aw
 rintro ms1 S1 ⟨b,id,q,k,d,h1_0,h1_1,h1_5,c1_0,c1_1,c1_2,c1_3,c1_4,c1_5,hm1⟩
 have fL1:=(aa h1_0 (aa h1_1 h1_5))
 ·have hpq:al q=true:=by simp only[al,c1_0,Bool.and_true,decide_eq_true_eq];omega
  obtain⟨f1,f2,f3⟩:=hf q c1_0 c1_1
  have cg:=fun m:Bool=>hg m q (by omega) c1_0
  cases hu:zN q with
  |true=>
   rw[wM hu]at c1_2
   cases b with
   |true=>
    simp only[cond_true]at h1_0
    have cE1:= @cg;have cE2:= @dS
    refine aQ (aa fL1 (aa @h1_0 (aa @hpq @hu))) ?_
    all_goals try(apply aq;repeat' first|exact ao|apply aa|(apply au;intro zb hc)|(apply ar;intro zb)|intro j')<;>try apply aw
   |false=>
    simp only[cond_false]at h1_0
    rcases c1_5 with e|⟨e1,e2⟩
    ·cases e
    ·have n4:=bi e1
     have cE1:= @cg;have cE2:= @dS
     refine aQ (aa fL1 (aa @h1_0 (aa @e2 (aa @n4 (aa @hpq @hu))))) ?_
     all_goals try(apply aq;repeat' first|exact ao|apply aa|(apply au;intro zb hc)|(apply ar;intro zb)|intro j')<;>try apply aw
  |false=>
   have f4:=f3 hu
   obtain⟨d,rfl⟩:∃e,d=e+1:=⟨d - 1,by omega⟩
   rw[uD,hu,if_neg (by decide)]at c1_2
   cases b with
   |true=>
    simp only[cond_true]at h1_0
    have cE1:= @cg;have cE2:= @dS
    refine aQ (aa fL1 (aa @h1_0 (aa @hpq @hu))) ?_
    all_goals try(apply aq;repeat' first|exact ao|apply aa|(apply au;intro zb hc)|(apply ar;intro zb)|intro j')<;>try apply aw
    focus
     refine ay ((fun(b:Bool) (id:Nat) (q:List Int) (k:Nat) (d:Nat)=>d) (false) (S1.n+1280) (f q) (k+1) (d)) (dC fL1 ?_) ⟨false,S1.n+1280,f q,k+1,d,dC fL1 ?_⟩
     all_goals try(apply aq;repeat' first|exact ao|apply aa|(apply au;intro zb hc)|(apply ar;intro zb)|intro j')<;>try apply aw
    all_goals(first|(rw[←c1_2];omega)|skip)
   |false=>
    simp only[cond_false]at h1_0
    rcases c1_5 with e|⟨e1,e2⟩
    ·cases e
    ·have n4:=bi e1
     have cE1:= @cg;have cE2:= @dS
     refine aQ (aa fL1 (aa @h1_0 (aa @e2 (aa @n4 (aa @hpq @hu))))) ?_
     all_goals try(apply aq;repeat' first|exact ao|apply aa|(apply au;intro zb hc)|(apply ar;intro zb)|intro j')<;>try apply aw
     focus
      refine ay ((fun(b:Bool) (id:Nat) (q:List Int) (k:Nat) (d:Nat)=>d) (false) (S1.n+1280) (f q) (k+1) (d)) (dC fL1 ?_) ⟨false,S1.n+1280,f q,k+1,d,dC fL1 ?_⟩
      all_goals try(apply aq;repeat' first|exact ao|apply aa|(apply au;intro zb hc)|(apply ar;intro zb)|intro j')<;>try apply aw
     all_goals(first|(rw[←c1_2];omega)|skip)
theorem f9 {m0:Bool} (p:List Int) (hl:p.length≤1048576):Fun Tryz.prog 47 [(.sl (.lent m0) (List.map (PV.int .i64) (p)))] [(.int .i64 (tt oH p))]:=by
 by_cases h:al p=true
 ·have c1:=fun m0:Bool=>dx (m0:=m0) p 93 oH h (fun q hq _=>Cf hq) (fun m q hl _=>gB (m0:=m) q hl)
  rw[tt,if_pos h]
  refine fO bA [2] Tryz.func47 ?_
  have cE1:= @aA;have cE2:= @dx;have cE3:= @gB
  have cE1:= @c1;have cE2:= @aA
  refine aQ @h ?_
  all_goals try(apply aq;repeat' first|exact ao|apply aa|(apply au;intro zb hc)|(apply ar;intro zb)|intro j')<;>try apply aw
 ·rw[tt,if_neg h]
  rw[aI]at h
  refine fO bA [2] Tryz.func47 ?_
  have cE1:= @aA;have cE2:= @dx;have cE3:= @gB
  refine aQ @h ?_
  all_goals try(apply aq;repeat' first|exact ao|apply aa|(apply au;intro zb hc)|(apply ar;intro zb)|intro j')<;>try apply aw
theorem fR {m0:Bool} (p:List Int) (hl:p.length≤1048576):Fun Tryz.prog 33 [(.sl (.lent m0) (List.map (PV.int .i64) (p)))] [(.int .i64 (tt oH p))]:=by
 by_cases h:al p=true
 ·obtain⟨h8,hq⟩:=aK h
  have h64:wE p≤64:=Nat.le_trans xk (Nat.mul_le_mul h8 h8)
  rw[tt,if_pos h]
  refine fO bA [2] Tryz.func33 ?_
  have cE1:= @aD;have cE2:= @dA;have cE3:= @kE
  refine aQ @h ?_
  all_goals try(apply aq;repeat' first|exact ao|apply aa|(apply au;intro zb hc)|(apply ar;intro zb)|intro j')<;>try apply aw
  refine az (fun ms1 S1=>∃(b:Bool) (id:Nat) (q:List Int) (k:Nat) (d:Nat),S1.e 0=(bif b then AV.p (.sl (.lent m0) (List.map (PV.int .i64) q))else AV.ref id 0 q.length)∧S1.e 3=.p (.int .i64 (k))∧(bD q=true)∧(q.length=p.length)∧((k:Int)+uD oH d q=uD oH 64 p)∧(wE q≤d)∧(k+d=64)∧(b=true∨(id<S1.n∧S1.h id=.live false (List.map (PV.int .i64) q)))∧ms1=d) ((fun(b:Bool) (id:Nat) (q:List Int) (k:Nat) (d:Nat)=>d) (true) (0) (p) (0) (64)) ?_ ⟨true,0,p,0,64,dC trivial ?_⟩
  all_goals try(apply aq;repeat' first|exact ao|apply aa|(apply au;intro zb hc)|(apply ar;intro zb)|intro j')<;>try apply aw
  rintro ms1 S1 ⟨b,id,q,k,d,h1_0,h1_3,c1_0,c1_1,c1_2,c1_3,c1_4,c1_5,hm1⟩
  have fL1:=(aa h1_0 h1_3)
  ·have q8:q.length≤8:=by omega
   obtain⟨f1,f2,f3⟩:=Cf c1_0
   cases hu:zN q with
   |true=>
    rw[wM hu]at c1_2
    cases b with
    |true=>
     simp only[cond_true]at h1_0
     refine aQ (aa fL1 (aa @h1_0 @hu)) ?_
     all_goals try(apply aq;repeat' first|exact ao|apply aa|(apply au;intro zb hc)|(apply ar;intro zb)|intro j')<;>try apply aw
    |false=>
     simp only[cond_false]at h1_0
     rcases c1_5 with e|⟨e1,e2⟩
     ·cases e
     ·have n4:=bi e1
      refine aQ (aa fL1 (aa @h1_0 (aa @e2 (aa @n4 @hu)))) ?_
      all_goals try(apply aq;repeat' first|exact ao|apply aa|(apply au;intro zb hc)|(apply ar;intro zb)|intro j')<;>try apply aw
   |false=>
    have f4:=f3 hu
    obtain⟨d,rfl⟩:∃e,d=e+1:=⟨d - 1,by omega⟩
    rw[uD,hu,if_neg (by decide)]at c1_2
    cases b with
    |true=>
     simp only[cond_true]at h1_0
     refine aQ (aa fL1 (aa @h1_0 @hu)) ?_
     all_goals try(apply aq;repeat' first|exact ao|apply aa|(apply au;intro zb hc)|(apply ar;intro zb)|intro j')<;>try apply aw
     focus
      refine ay ((fun(b:Bool) (id:Nat) (q:List Int) (k:Nat) (d:Nat)=>d) (false) (S1.n+1024) (oH q) (k+1) (d)) (dC fL1 ?_) ⟨false,S1.n+1024,oH q,k+1,d,dC fL1 ?_⟩
      all_goals try(apply aq;repeat' first|exact ao|apply aa|(apply au;intro zb hc)|(apply ar;intro zb)|intro j')<;>try apply aw
     all_goals(first|(rw[←c1_2];omega)|skip)
    |false=>
     simp only[cond_false]at h1_0
     rcases c1_5 with e|⟨e1,e2⟩
     ·cases e
     ·have n4:=bi e1
      refine aQ (aa fL1 (aa @h1_0 (aa @e2 (aa @n4 @hu)))) ?_
      all_goals try(apply aq;repeat' first|exact ao|apply aa|(apply au;intro zb hc)|(apply ar;intro zb)|intro j')<;>try apply aw
      focus
       refine ay ((fun(b:Bool) (id:Nat) (q:List Int) (k:Nat) (d:Nat)=>d) (false) (S1.n+1024) (oH q) (k+1) (d)) (dC fL1 ?_) ⟨false,S1.n+1024,oH q,k+1,d,dC fL1 ?_⟩
       all_goals try(apply aq;repeat' first|exact ao|apply aa|(apply au;intro zb hc)|(apply ar;intro zb)|intro j')<;>try apply aw
      all_goals(first|(rw[←c1_2];omega)|skip)
 ·rw[tt,if_neg h]
  rw[aI]at h
  refine fO bA [2] Tryz.func33 ?_
  have cE1:= @aD;have cE2:= @dA;have cE3:= @kE
  refine aQ @h ?_
  all_goals try(apply aq;repeat' first|exact ao|apply aa|(apply au;intro zb hc)|(apply ar;intro zb)|intro j')<;>try apply aw
theorem aak {p:List Int} {a b:Nat}:(p.drop a).getD b 0=p.getD (a+b) 0:=by
 rw[ac,aW,←ac]
theorem mJ {p:List Int} {i j:Nat} (h:i≤j) (hj:j<p.length):(p.drop i).take (j+1 - i)=(p.drop i).take (j - i)++[p.getD j 0]:=by
 rw[show j+1 - i=(j - i)+1 by omega,aX (d:=0) (by rw[List.length_drop];omega),aak,show i+(j - i)=j by omega]
theorem Cq {p:List Int} {i:Nat}:∀{d j:Nat},j=i+d→j<p.length→(∀t,i≤t→t<j→p.getD (t+1) 0<p.getD t 0)→kO (p.drop i) []=kO (p.drop (j+1)) ((p.drop i).take (j+1 - i)).reverse
 |0,j,e,hj,_=>by
  obtain rfl:j=i:=by omega
  rw[mJ (am _) hj,Nat.sub_self,List.take_zero,aR,List.reverse_singleton,bH hj,kO]
 |d+1,j,e,hj,hd=>by
  obtain⟨k,rfl⟩:∃k,j=k+1:=⟨j - 1,by omega⟩
  rw[Cq (d:=d) (j:=k) (by omega) (by omega) (fun t h1 h2=>hd t h1 (by omega)),mJ (j:=k) (by omega) (by omega),List.reverse_append,List.reverse_singleton,List.singleton_append,bH hj,kO,if_pos (hd k (by omega) (by omega)),mJ (j:=k+1) (by omega) hj,List.reverse_append,List.reverse_singleton,List.singleton_append]
  rw[show k+1 - i=(k - i)+1 by omega]at*
  congr 2
  rw[←show k+1 - i=(k - i)+1 by omega,mJ (j:=k) (by omega) (by omega),List.reverse_append,List.reverse_singleton,List.singleton_append]
theorem yk {p:List Int} {i j:Nat} (h:i≤j) (hj:j<p.length) (he:j+1=p.length∨¬p.getD (j+1) 0<p.getD j 0) (hd:∀t,i≤t→t<j→p.getD (t+1) 0<p.getD t 0):
  kO (p.drop i) []=((p.drop i).take (j+1 - i)).reverse++kO (p.drop (j+1)) []:=by
 rw[Cq (d:=j - i) (by omega) hj hd,mJ h hj,List.reverse_append,List.reverse_singleton,List.singleton_append]
 by_cases e:j+1=p.length
 ·rw[aL (by omega)];simp[kO]
 ·have h2:¬p.getD (j+1) 0<p.getD j 0:=by
   rcases he with g|g
   ·exact absurd g e
   ·exact g
  rw[bH (k:=j+1) (by omega)]
  simp only[kO,if_neg h2]
theorem kD {m0:Bool} (p:List Int) (hl:p.length≤8):Fun Tryz.prog 73 [(.sl (.lent m0) (List.map (PV.int .i64) (p)))] [(.sl .own (List.map (PV.int .i64) (nW p)))]:=by
 refine fO bA [2] Tryz.func73 ?_
 have cE1:= @bC
 refine aQ trivial ?_
 all_goals try(apply aq;repeat' first|exact ao|apply aa|(apply au;intro zb hc)|(apply ar;intro zb)|intro j')<;>try apply aw
 refine az (fun ms1 S1=>∃(i:Nat) (o:List Int),S1.e 0=.p (.sl (.lent m0) (List.map (PV.int .i64) (p)))∧OwnL (S1.e 3) S1.h S1.n (PV.int .i64) ((o).length) (o)∧S1.e 4=.p (.int .i64 (i))∧(i≤p.length)∧(o++kO (p.drop i) []=nW p)∧(o.length=i)∧ms1=p.length - i) ((fun(i:Nat) (o:List Int)=>p.length - i) (0) ([])) ?_ ⟨0,[],dC trivial ?_⟩
 all_goals try(apply aq;repeat' first|exact ao|apply aa|(apply au;intro zb hc)|(apply ar;intro zb)|intro j')<;>try apply aw
 rintro ms1 S1 ⟨i,o,h1_0,o1_3,h1_4,c1_0,c1_1,c1_2,hm1⟩
 obtain⟨i1_3,h1_3,b1_3,l1_3⟩:=o1_3.out
 have ni1_3:=bi (x:=i1_3) (n:=S1.n)
 have fL1:=(aa h1_0 (aa h1_4 (aa h1_3 (aa b1_3 ni1_3))))
 ·by_cases hi:i<p.length
  ·refine aQ fL1 ?_
   all_goals try(apply aq;repeat' first|exact ao|apply aa|(apply au;intro zb hc)|(apply ar;intro zb)|intro j')<;>try apply aw
   refine az (fun ms2 S2=>∃(j:Nat),S2.e 0=.p (.sl (.lent m0) (List.map (PV.int .i64) (p)))∧OwnL (S2.e 3) S2.h S2.n (PV.int .i64) ((o).length) (o)∧S2.e 4=.p (.int .i64 (i))∧S2.e 5=.p (.int .i64 (j))∧(i≤j∧j<p.length)∧(∀t,i≤t→t<j→p.getD (t+1) 0<p.getD t 0)∧S1.n≤S2.n∧ms2=p.length - j) ((fun(j:Nat)=>p.length - j) (i)) ?_ ⟨i,dC fL1 ?_⟩
   all_goals try(apply aq;repeat' first|exact ao|apply aa|(apply au;intro zb hc)|(apply ar;intro zb)|intro j')<;>try apply aw
   rintro ms2 S2 ⟨j,h2_0,o2_3,h2_4,h2_5,c2_0,c2_1,u2_0,hm2⟩
   obtain⟨i2_3,h2_3,b2_3,l2_3⟩:=o2_3.out
   have ni2_3:=bi (x:=i2_3) (n:=S2.n)
   have fL2:=(aa h2_0 (aa h2_4 (aa h2_5 (aa h2_3 (aa b2_3 ni2_3)))))
   ·have fin:(j+1=p.length∨¬p.getD (j+1) 0<p.getD j 0)→(o++((p.drop i).take (j+1 - i)).reverse)++kO (p.drop (j+1)) []=nW p:=fun he=>by
     rw[aB,←yk c2_0.1 c2_0.2 he c2_1];exact c1_1
    have el:((p.drop i).take (j+1 - i)).reverse.length=j+1 - i:=by rw[aG,aV,List.length_drop];omega
    have ek:List.drop i (List.take (j+1) p)=(p.drop i).take (j+1 - i):=List.drop_take
    have ej:((j:Int)+1).toNat=j+1:=by omega
    by_cases hj:j+1<p.length
    ·by_cases hd:p.getD (j+1) 0<p.getD j 0
     ·refine aQ (aa fL2 (aa @hd @ej)) ?_
      all_goals try(apply aq;repeat' first|exact ao|apply aa|(apply au;intro zb hc)|(apply ar;intro zb)|intro j')<;>try apply aw
      focus
       refine ay ((fun(j:Nat)=>p.length - j) (j+1)) (dC fL2 ?_) ⟨j+1,dC fL2 ?_⟩
       all_goals try(apply aq;repeat' first|exact ao|apply aa|(apply au;intro zb hc)|(apply ar;intro zb)|intro j')<;>try apply aw
      all_goals(first|(intro t h1 h2;rcases Nat.lt_or_ge t j with g|g;exact c2_1 t h1 g;obtain rfl:t=j:=(by omega);exact hd)|skip)
     ·have q1:=fin (.inr hd)
      have hd':(p.getD (j+1) 0<p.getD j 0)=False:=eq_false hd
      refine aQ (aa fL2 (aa @hd' (aa @ej @ek))) ?_
      all_goals try(apply aq;repeat' first|exact ao|apply aa|(apply au;intro zb hc)|(apply ar;intro zb)|intro j')<;>try apply aw
      focus
       refine ay ((fun(i:Nat) (o:List Int)=>p.length - i) (j+1) (o++((p.drop i).take (j+1 - i)).reverse)) (dC fL2 ?_) ⟨j+1,o++((p.drop i).take (j+1 - i)).reverse,dC fL2 ?_⟩
       all_goals try(apply aq;repeat' first|exact ao|apply aa|(apply au;intro zb hc)|(apply ar;intro zb)|intro j')<;>try apply aw
      all_goals(first|exact q1|(rw[←aB];exact q1)|(rw[ak,el];omega)|skip)
    ·have q1:=fin (.inl (by omega))
     refine aQ (aa fL2 (aa @ej @ek)) ?_
     all_goals try(apply aq;repeat' first|exact ao|apply aa|(apply au;intro zb hc)|(apply ar;intro zb)|intro j')<;>try apply aw
     focus
      refine ay ((fun(i:Nat) (o:List Int)=>p.length - i) (j+1) (o++((p.drop i).take (j+1 - i)).reverse)) (dC fL2 ?_) ⟨j+1,o++((p.drop i).take (j+1 - i)).reverse,dC fL2 ?_⟩
      all_goals try(apply aq;repeat' first|exact ao|apply aa|(apply au;intro zb hc)|(apply ar;intro zb)|intro j')<;>try apply aw
     all_goals(first|exact q1|(rw[←aB];exact q1)|(rw[ak,el];omega)|skip)
  ·obtain rfl:i=p.length:=by omega
   rw[List.drop_length]at c1_1
   have q1:o=nW p:=by rw[←c1_1];simp[kO]
   refine aQ fL1 ?_
   all_goals try(apply aq;repeat' first|exact ao|apply aa|(apply au;intro zb hc)|(apply ar;intro zb)|intro j')<;>try apply aw
   all_goals(first|exact q1|(rw[q1];done)|skip)
def ld (p:List Int):Nat→List (List Int)×Nat
 |0=>([],0)
 |i+1=>if i+1=p.length∨p.getD i 0<p.getD (i+1) 0 then((ld p i).1++[[((ld p i).2:Int)+1,(i:Int)+1]],i+1)else ld p i
def z7 (q r:List Int):List Int:=q.take (r.getD 0 0 - 1).toNat++((q.drop (r.getD 0 0 - 1).toNat).take ((r.getD 1 0).toNat - (r.getD 0 0 - 1).toNat)).reverse++q.drop (r.getD 1 0).toNat
def mc (L:List (List Int)) (q:List Int):List Int:=L.foldl z7 q
theorem CE {q r:List Int} (h0:1≤r.getD 0 0) (h1:r.getD 0 0≤r.getD 1 0) (h2:r.getD 1 0≤q.length):(z7 q r).length=q.length:=by
 unfold z7
 simp only[ak,aG,aV,List.length_drop];omega
theorem qt {n:Nat}:∀{L:List (List Int)} {q:List Int},q.length=n→(∀r∈L,1≤r.getD 0 0∧r.getD 0 0≤r.getD 1 0∧r.getD 1 0≤n)→(mc L q).length=n
 |[],_,h,_=>h
 |r::L,q,h,hr=>by
  have:=hr r List.mem_cons_self
  rw[mc,List.foldl_cons]
  exact qt (L:=L) (by rw[CE this.1 this.2.1 (by omega)];exact h) fun r hr'=>hr r (aY _ hr')
theorem y4 {p:List Int} (hn:p.Nodup):∀{i:Nat},i≤p.length→(ld p i).2≤i∧(ld p i).1.length≤i∧(∀r∈(ld p i).1,r.length=2∧1≤r.getD 0 0∧r.getD 0 0≤r.getD 1 0∧r.getD 1 0≤p.length)∧
  (∀t,(ld p i).2≤t→t<i→p.getD (t+1) 0<p.getD t 0)∧(i=p.length→(ld p i).2=i)∧
  ∃O:List Int,O.length=(ld p i).2∧mc (ld p i).1 p=O++p.drop (ld p i).2∧O++kO (p.drop (ld p i).2) []=nW p
 |0,_=>⟨am _,am _,fun r h=>(by cases h),fun t _ h=>absurd h (by omega),fun h=>rfl,[],rfl,by simp[ld,mc],by simp[ld,nW]⟩
 |i+1,hi=>by
  obtain⟨h1,h2,h3,h4,_,O,o1,o2,o3⟩:=y4 hn (i:=i) (by omega)
  rw[ld]
  by_cases hB:i+1=p.length∨p.getD i 0<p.getD (i+1) 0
  ·rw[if_pos hB]
   generalize hs:(ld p i).2=s at*
   generalize hL:(ld p i).1=L at*
   simp only
   have he:i+1=p.length∨¬p.getD (i+1) 0<p.getD i 0:=by
    rcases hB with g|g
    ·exact .inl g
    ·exact .inr (by omega)
   have hr:=yk h1 (by omega) he h4
   refine⟨am _,by simp;omega,fun r hr=> ?_,fun t g1 g2=>by omega,by intros;trivial,O++((p.drop s).take (i+1 - s)).reverse, ?_, ?_, ?_⟩
   ·rcases List.mem_append.1 hr with g|g
    ·exact h3 r g
    ·rw[aP]at g;subst g
     refine⟨rfl, ?_, ?_, ?_⟩<;>simp<;>omega
   ·simp only[ak,aG,aV,List.length_drop];omega
   ·rw[mc,List.foldl_append,List.foldl_cons,List.foldl_nil,←mc,o2]
    unfold z7
    have e0:([(s:Int)+1,(i:Int)+1].getD 0 0 - 1).toNat=s:=by simp
    have e1:([(s:Int)+1,(i:Int)+1].getD 1 0).toNat=i+1:=by simp<;>omega
    rw[e0,e1]
    congr 1
    ·congr 1
     ·rw[←o1,List.take_append_of_le_length (am _),List.take_length]
     ·rw[←o1,List.drop_append_of_le_length (am _),List.drop_length,aR]
    ·rw[List.drop_append,aL (by omega),aR,List.drop_drop,show s+(i+1 - O.length)=i+1 by omega]
   ·rw[aB,←hr];exact o3
  ·rw[if_neg hB]
   refine⟨by omega,by omega,h3,fun t g1 g2=> ?_,fun e=>absurd (.inl e) hB,O,o1,o2,o3⟩
   rcases Nat.lt_or_ge t i with g|g
   ·exact h4 t g1 g
   ·obtain rfl:t=i:=by omega
    have hne:p.getD t 0≠p.getD (t+1) 0:=fun e=>by
     rw[ac,ac,ae (by omega),ae (by omega)]at e
     exact List.pairwise_iff_getElem.1 (List.nodup_iff_pairwise_ne.1 hn) t (t+1) (by omega) (by omega) (by omega) (by simpa using e)
    omega
theorem Nq {p:List Int} (hn:p.Nodup):mc (ld p p.length).1 p=nW p:=by
 obtain⟨_,_,_,_,h5,O,o1,o2,o3⟩:=y4 hn (am _)
 rw[h5 rfl,List.drop_length]at o2 o3
 rw[o2,←o3];simp[kO]
theorem ui {m0:Bool} (p:List Int) (hl:p.length≤8) (hn:p.Nodup):Fun Tryz.prog 135 [(.sl (.lent m0) (List.map (PV.int .i64) (p)))] [(.sl .own (List.map (bW false) ((ld p p.length).1)))]:=by
 refine fO bA [2] Tryz.func135 ?_
 refine aQ trivial ?_
 all_goals try(apply aq;repeat' first|exact ao|apply aa|(apply au;intro zb hc)|(apply ar;intro zb)|intro j')<;>try apply aw
 refine az (fun ms1 S1=>∃(i:Nat),S1.e 0=.p (.sl (.lent m0) (List.map (PV.int .i64) (p)))∧OwnL (S1.e 3) S1.h S1.n (bW false) (((ld p i).1).length) ((ld p i).1)∧S1.e 4=.p (.int .i64 ((ld p i).2))∧S1.e 8=.p (.int .i64 (p.length))∧S1.e 9=.p (.int .i64 (i))∧(i≤p.length)∧ms1=p.length - i) ((fun(i:Nat)=>p.length - i) (0)) ?_ ⟨0,dC trivial ?_⟩
 all_goals try(apply aq;repeat' first|exact ao|apply aa|(apply au;intro zb hc)|(apply ar;intro zb)|intro j')<;>try apply aw
 rintro ms1 S1 ⟨i,h1_0,o1_3,h1_4,h1_8,h1_9,c1_0,hm1⟩
 obtain⟨i1_3,h1_3,b1_3,l1_3⟩:=o1_3.out
 have ni1_3:=bi (x:=i1_3) (n:=S1.n)
 have fL1:=(aa h1_0 (aa h1_4 (aa h1_8 (aa h1_9 (aa h1_3 (aa b1_3 ni1_3))))))
 ·obtain⟨b1,b2,_⟩:=y4 hn c1_0
  by_cases hi:i<p.length
  ·have e0:ld p (i+1)=if i+1=p.length∨p.getD i 0<p.getD (i+1) 0 then((ld p i).1++[[((ld p i).2:Int)+1,(i:Int)+1]],i+1)else ld p i:=rfl
   have ei:((i:Int)+1).toNat=i+1:=by omega
   by_cases hE:i+1=p.length
   ·rw[if_pos (.inl hE)]at e0
    have e1:(ld p (i+1)).1=(ld p i).1++[[((ld p i).2:Int)+1,(i:Int)+1]]:=by rw[e0]
    have e2:(ld p (i+1)).2=i+1:=by rw[e0]
    have hE':((i:Int)+1=(p.length:Int))=True:=eq_true (by omega)
    refine aQ (aa fL1 (aa @hE' @ei)) ?_
    all_goals try(apply aq;repeat' first|exact ao|apply aa|(apply au;intro zb hc)|(apply ar;intro zb)|intro j')<;>try apply aw
    focus
     refine ay ((fun(i:Nat)=>p.length - i) (i+1)) (dC fL1 ?_) ⟨i+1,dC fL1 ?_⟩
     all_goals try(apply aq;repeat' first|exact ao|apply aa|(apply au;intro zb hc)|(apply ar;intro zb)|intro j')<;>try apply aw
    all_goals(first|(rw[e1];done)|(rw[e2];done)|(rw[e2];rfl)|(rw[e1,ak];rfl)|(rw[e1,aT];rfl)|skip)
   ·have hE':((i:Int)+1=(p.length:Int))=False:=eq_false (by omega)
    by_cases hr:p.getD i 0<p.getD (i+1) 0
    ·rw[if_pos (.inr hr)]at e0
     have e1:(ld p (i+1)).1=(ld p i).1++[[((ld p i).2:Int)+1,(i:Int)+1]]:=by rw[e0]
     have e2:(ld p (i+1)).2=i+1:=by rw[e0]
     refine aQ (aa fL1 (aa @hE' (aa @hr @ei))) ?_
     all_goals try(apply aq;repeat' first|exact ao|apply aa|(apply au;intro zb hc)|(apply ar;intro zb)|intro j')<;>try apply aw
     focus
      refine ay ((fun(i:Nat)=>p.length - i) (i+1)) (dC fL1 ?_) ⟨i+1,dC fL1 ?_⟩
      all_goals try(apply aq;repeat' first|exact ao|apply aa|(apply au;intro zb hc)|(apply ar;intro zb)|intro j')<;>try apply aw
     all_goals(first|(rw[e1];done)|(rw[e2];done)|(rw[e2];rfl)|(rw[e1,ak];rfl)|(rw[e1,aT];rfl)|skip)
    ·rw[if_neg (by omega)]at e0
     have hr':(p.getD i 0<p.getD (i+1) 0)=False:=eq_false hr
     refine aQ (aa fL1 (aa @hE' (aa @hr' @ei))) ?_
     all_goals try(apply aq;repeat' first|exact ao|apply aa|(apply au;intro zb hc)|(apply ar;intro zb)|intro j')<;>try apply aw
     focus
      refine ay ((fun(i:Nat)=>p.length - i) (i+1)) (dC fL1 ?_) ⟨i+1,dC fL1 ?_⟩
      all_goals try(apply aq;repeat' first|exact ao|apply aa|(apply au;intro zb hc)|(apply ar;intro zb)|intro j')<;>try apply aw
     all_goals(first|(rw[e0];done)|skip)
  ·obtain rfl:i=p.length:=by omega
   refine aQ fL1 ?_
   all_goals try(apply aq;repeat' first|exact ao|apply aa|(apply au;intro zb hc)|(apply ar;intro zb)|intro j')<;>try apply aw
theorem iQ {m0:Bool} (p:List Int) (hl:p.length≤8) (hn:p.Nodup):Fun Tryz.prog 94 [(.sl (.lent m0) (List.map (PV.int .i64) (p)))] [(.sl .own (List.map (PV.int .i64) (nW p)))]:=by
 refine fO uS [2] Tryz.func94 ?_
 have cE1:= @cA;have cE2:= @ui;have cM1:= @dn;have cD1:=iE [false,false,false,false,false,false,false,false,false,true] []
 have hr:=uX
 obtain⟨_,b2,b3,_⟩:=y4 hn (am p.length)
 have bp:=Nq hn
 generalize hF:(ld p p.length).1=F at*
 have cM2:= @hr
 refine aQ @hF ?_
 all_goals try(apply aq;repeat' first|exact ao|apply aa|(apply au;intro zb hc)|(apply ar;intro zb)|intro j')<;>try apply aw
 refine az (fun ms1 S1=>∃(k:Nat),OwnL (S1.e 3) S1.h S1.n (PV.int .i64) ((mc (F.take k) p).length) (mc (F.take k) p)∧OwnL (S1.e 9) S1.h S1.n (bW false) ((F).length) (F)∧S1.e 10=.p (.int .i64 (F.length))∧S1.e 11=.p (.int .i64 (k))∧(k≤F.length)∧NId (S1.e 9) (S1.e 3)∧ms1=F.length - k) ((fun(k:Nat)=>F.length - k) (0)) ?_ ⟨0,dC trivial ?_⟩
 all_goals try(apply aq;repeat' first|exact ao|apply aa|(apply au;intro zb hc)|(apply ar;intro zb)|intro j')<;>try apply aw
 rintro ms1 S1 ⟨k,o1_3,o1_9,h1_10,h1_11,c1_0,u1_0,hm1⟩
 obtain⟨i1_3,h1_3,b1_3,l1_3⟩:=o1_3.out
 obtain⟨i1_9,h1_9,b1_9,l1_9⟩:=o1_9.out
 have k1_0:=(u1_0).out h1_9 h1_3
 have ni1_3:=bi (x:=i1_3) (n:=S1.n)
 have ni1_9:=bi (x:=i1_9) (n:=S1.n)
 have di1_3i1_9:=ds (x:=i1_3) (y:=i1_9)
 have fL1:=(aa h1_10 (aa h1_11 (aa h1_3 (aa b1_3 (aa h1_9 (aa b1_9 (aa ni1_3 (aa ni1_9 di1_3i1_9))))))))
 ·have q1:(mc (F.take k) p).length=p.length:=qt rfl fun r hr=>(b3 r (List.mem_of_mem_take hr)).2
  by_cases hk:k<F.length
  ·obtain⟨r1,r2,r3,r4⟩:=b3 _ (aF (l:=F) (i:=k) (d:=[]) hk)
   have e1:mc (F.take (k+1)) p=z7 (mc (F.take k) p) (F.getD k []):=by rw[aX (d:=[]) hk,mc,List.foldl_append];rfl
   unfold z7 at e1
   have q2:(mc (F.take (k+1)) p).length=p.length:=qt rfl fun r hr=>(b3 r (List.mem_of_mem_take hr)).2
   have e6:((F.getD k []).getD 0 0 - 1).toNat+(((F.getD k []).getD 1 0).toNat - ((F.getD k []).getD 0 0 - 1).toNat)=((F.getD k []).getD 1 0).toNat:=by omega
   have cM2:= @hr
   refine aQ fL1 ?_
   all_goals try(apply aq;repeat' first|exact ao|apply aa|(apply au;intro zb hc)|(apply ar;intro zb)|intro j')<;>try apply aw
   focus
    refine ay ((fun(k:Nat)=>F.length - k) (k+1)) (dC fL1 ?_) ⟨k+1,dC fL1 ?_⟩
    all_goals try(apply aq;repeat' first|exact ao|apply aa|(apply au;intro zb hc)|(apply ar;intro zb)|intro j')<;>try apply aw
   all_goals(first|(rw[e1];done)|(rw[q1,q2];done)|(rw[e6,e1,aB];done)|skip)
  ·rw[ah (by omega),bp]at q1
   have e2:mc (F.take k) p=nW p:=by rw[ah (by omega),bp]
   have cM2:= @hr
   refine aQ (aa fL1 @e2) ?_
   all_goals try(apply aq;repeat' first|exact ao|apply aa|(apply au;intro zb hc)|(apply ar;intro zb)|intro j')<;>try apply aw
   all_goals(first|exact e2|skip)
theorem gX {m0:Bool} (p:List Int) (hl:p.length≤1048576):Fun Tryz.prog 48 [(.sl (.lent m0) (List.map (PV.int .i64) (p)))] [(.int .i64 (tt nW p))]:=by
 by_cases h:al p=true
 ·have c1:=fun m0:Bool=>dx (m0:=m0) p 94 nW h (fun q hq _=>CD hq) (fun m q hl hq=>iQ (m0:=m) q hl (permB_iff.1 hq).2)
  rw[tt,if_pos h]
  refine fO bA [2] Tryz.func48 ?_
  have cE1:= @aA;have cE2:= @dx;have cE3:= @iQ
  have cE1:= @c1;have cE2:= @aA
  refine aQ @h ?_
  all_goals try(apply aq;repeat' first|exact ao|apply aa|(apply au;intro zb hc)|(apply ar;intro zb)|intro j')<;>try apply aw
 ·rw[tt,if_neg h]
  rw[aI]at h
  refine fO bA [2] Tryz.func48 ?_
  have cE1:= @aA;have cE2:= @dx;have cE3:= @iQ
  refine aQ @h ?_
  all_goals try(apply aq;repeat' first|exact ao|apply aa|(apply au;intro zb hc)|(apply ar;intro zb)|intro j')<;>try apply aw
theorem gT {m0:Bool} (p:List Int) (hl:p.length≤1048576):Fun Tryz.prog 34 [(.sl (.lent m0) (List.map (PV.int .i64) (p)))] [(.int .i64 (tt nW p))]:=by
 by_cases h:al p=true
 ·obtain⟨h8,hq⟩:=aK h
  have h64:wE p≤64:=Nat.le_trans xk (Nat.mul_le_mul h8 h8)
  rw[tt,if_pos h]
  refine fO bA [2] Tryz.func34 ?_
  have cE1:= @aD;have cE2:= @dA;have cE3:= @kD
  refine aQ @h ?_
  all_goals try(apply aq;repeat' first|exact ao|apply aa|(apply au;intro zb hc)|(apply ar;intro zb)|intro j')<;>try apply aw
  refine az (fun ms1 S1=>∃(b:Bool) (id:Nat) (q:List Int) (k:Nat) (d:Nat),S1.e 0=(bif b then AV.p (.sl (.lent m0) (List.map (PV.int .i64) q))else AV.ref id 0 q.length)∧S1.e 3=.p (.int .i64 (k))∧(bD q=true)∧(q.length=p.length)∧((k:Int)+uD nW d q=uD nW 64 p)∧(wE q≤d)∧(k+d=64)∧(b=true∨(id<S1.n∧S1.h id=.live false (List.map (PV.int .i64) q)))∧ms1=d) ((fun(b:Bool) (id:Nat) (q:List Int) (k:Nat) (d:Nat)=>d) (true) (0) (p) (0) (64)) ?_ ⟨true,0,p,0,64,dC trivial ?_⟩
  all_goals try(apply aq;repeat' first|exact ao|apply aa|(apply au;intro zb hc)|(apply ar;intro zb)|intro j')<;>try apply aw
  rintro ms1 S1 ⟨b,id,q,k,d,h1_0,h1_3,c1_0,c1_1,c1_2,c1_3,c1_4,c1_5,hm1⟩
  have fL1:=(aa h1_0 h1_3)
  ·have q8:q.length≤8:=by omega
   obtain⟨f1,f2,f3⟩:=CD c1_0
   cases hu:zN q with
   |true=>
    rw[wM hu]at c1_2
    cases b with
    |true=>
     simp only[cond_true]at h1_0
     refine aQ (aa fL1 (aa @h1_0 @hu)) ?_
     all_goals try(apply aq;repeat' first|exact ao|apply aa|(apply au;intro zb hc)|(apply ar;intro zb)|intro j')<;>try apply aw
    |false=>
     simp only[cond_false]at h1_0
     rcases c1_5 with e|⟨e1,e2⟩
     ·cases e
     ·have n4:=bi e1
      refine aQ (aa fL1 (aa @h1_0 (aa @e2 (aa @n4 @hu)))) ?_
      all_goals try(apply aq;repeat' first|exact ao|apply aa|(apply au;intro zb hc)|(apply ar;intro zb)|intro j')<;>try apply aw
   |false=>
    have f4:=f3 hu
    obtain⟨d,rfl⟩:∃e,d=e+1:=⟨d - 1,by omega⟩
    rw[uD,hu,if_neg (by decide)]at c1_2
    cases b with
    |true=>
     simp only[cond_true]at h1_0
     refine aQ (aa fL1 (aa @h1_0 @hu)) ?_
     all_goals try(apply aq;repeat' first|exact ao|apply aa|(apply au;intro zb hc)|(apply ar;intro zb)|intro j')<;>try apply aw
     focus
      refine ay ((fun(b:Bool) (id:Nat) (q:List Int) (k:Nat) (d:Nat)=>d) (false) (S1.n+1024) (nW q) (k+1) (d)) (dC fL1 ?_) ⟨false,S1.n+1024,nW q,k+1,d,dC fL1 ?_⟩
      all_goals try(apply aq;repeat' first|exact ao|apply aa|(apply au;intro zb hc)|(apply ar;intro zb)|intro j')<;>try apply aw
     all_goals(first|(rw[←c1_2];omega)|skip)
    |false=>
     simp only[cond_false]at h1_0
     rcases c1_5 with e|⟨e1,e2⟩
     ·cases e
     ·have n4:=bi e1
      refine aQ (aa fL1 (aa @h1_0 (aa @e2 (aa @n4 @hu)))) ?_
      all_goals try(apply aq;repeat' first|exact ao|apply aa|(apply au;intro zb hc)|(apply ar;intro zb)|intro j')<;>try apply aw
      focus
       refine ay ((fun(b:Bool) (id:Nat) (q:List Int) (k:Nat) (d:Nat)=>d) (false) (S1.n+1024) (nW q) (k+1) (d)) (dC fL1 ?_) ⟨false,S1.n+1024,nW q,k+1,d,dC fL1 ?_⟩
       all_goals try(apply aq;repeat' first|exact ao|apply aa|(apply au;intro zb hc)|(apply ar;intro zb)|intro j')<;>try apply aw
      all_goals(first|(rw[←c1_2];omega)|skip)
 ·rw[tt,if_neg h]
  rw[aI]at h
  refine fO bA [2] Tryz.func34 ?_
  have cE1:= @aD;have cE2:= @dA;have cE3:= @kD
  refine aQ @h ?_
  all_goals try(apply aq;repeat' first|exact ao|apply aa|(apply au;intro zb hc)|(apply ar;intro zb)|intro j')<;>try apply aw
end Go.Gl
