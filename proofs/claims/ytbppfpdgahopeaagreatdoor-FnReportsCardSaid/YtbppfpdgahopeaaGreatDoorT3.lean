/-
  What the functions compute, and what the law asks of it: texts joined. Conditions: those that each lemma names.
-/
import Derived.Test.YtbppfpdgahopeaaGreatDoorT1
import Derived.Test.YtbppfpdgahopeaaGreatDoorT2
set_option linter.unusedSimpArgs false
set_option linter.unusedVariables false
set_option maxRecDepth 20000
set_option linter.unusedSectionVars false
set_option maxHeartbeats 16000000
namespace Go.Gl
open Go Go.Proofs
variable [Amb] [NoQ]
def pP (l:List Int) (x:Int) (k:Nat):Int:=((l.take k).filter fun y=>decide (y<x)).length+1
def lC (l:List Int):List Int:=l.map fun x=>pP l x l.length
theorem pO {l:List Int} {x:Int} {k:Nat} (h:k<l.length):pP l x (k+1)=pP l x k+db (decide (l.getD k 0<x)):=by
 rw[pP,pP,az (d:=0) h,List.filter_append,List.length_append,List.filter_cons]
 cases decide (l.getD k 0<x)<;>simp[db]<;>omega
theorem rkI_b {l:List Int} {x:Int} {k:Nat}:1≤pP l x k∧pP l x k≤l.length+1:=by
 have:=List.length_filter_le (fun y=>decide (y<x)) (l.take k)
 rw[List.length_take]at this
 unfold pP;omega
theorem fQ {m0:Bool} (l:List Int) (hl:l.length≤1048576):Fun Tryz.prog 163 [(.sl (.lent m0) (List.map (PV.int .i64) (l)))] [(.sl .own (List.map (PV.int .i64) (lC l)))]:=by
 refine fO aR [2] Tryz.func163 ?_
 have cE1:= @dN;have cD1:=gY [false,false,false,false,false,false,false,false,false,false,true,false,false] [(0,10)]
 refine ax trivial ?_
 all_goals try(apply ai;repeat' first|exact ah|apply aa|(apply ak;intro zb hc)|(apply aj;intro zb)|intro j')<;>try apply al
 refine an (fun ms1 S1=>∃(k:Nat),S1.e 0=.p (.sl (.lent m0) (List.map (PV.int .i64) (l)))∧OwnL (S1.e 3) S1.h S1.n (PV.int .i64) (((l.take k).map (fun x=>pP l x l.length)).length) ((l.take k).map (fun x=>pP l x l.length))∧S1.e 4=.p (.int .i64 (k))∧(k≤l.length)∧ms1=l.length - k) ((fun(k:Nat)=>l.length - k) (0)) ?_ ⟨0,jK trivial ?_⟩
 all_goals try(apply ai;repeat' first|exact ah|apply aa|(apply ak;intro zb hc)|(apply aj;intro zb)|intro j')<;>try apply al
 rintro ms1 S1 ⟨k,h1_0,o1_3,h1_4,c1_0,hm1⟩
 obtain⟨i1_3,h1_3,b1_3,l1_3⟩:=o1_3.out
 have ni1_3:=aG (x:=i1_3) (n:=S1.n)
 have fL1:=(aa h1_0 (aa h1_4 (aa h1_3 (aa b1_3 ni1_3))))
 refine ax fL1 ?_
 all_goals try(apply ai;repeat' first|exact ah|apply aa|(apply ak;intro zb hc)|(apply aj;intro zb)|intro j')<;>try apply al
 ·refine an (fun ms2 S2=>∃(j:Nat),S2.e 0=.p (.sl (.lent m0) (List.map (PV.int .i64) (l)))∧OwnL (S2.e 3) S2.h S2.n (PV.int .i64) (((l.take k).map (fun x=>pP l x l.length)).length) ((l.take k).map (fun x=>pP l x l.length))∧S2.e 4=.p (.int .i64 (k))∧S2.e 5=.p (.int .i64 (pP l (l.getD k 0) j))∧S2.e 6=.p (.int .i64 (j))∧(j≤l.length)∧(k<l.length)∧S1.n≤S2.n∧ms2=l.length - j) ((fun(j:Nat)=>l.length - j) (0)) ?_ ⟨0,jK fL1 ?_⟩
  all_goals try(apply ai;repeat' first|exact ah|apply aa|(apply ak;intro zb hc)|(apply aj;intro zb)|intro j')<;>try apply al
  rintro ms2 S2 ⟨j,h2_0,o2_3,h2_4,h2_5,h2_6,c2_0,c2_1,u2_0,hm2⟩
  obtain⟨i2_3,h2_3,b2_3,l2_3⟩:=o2_3.out
  have ni2_3:=aG (x:=i2_3) (n:=S2.n)
  have fL2:=(aa h2_0 (aa h2_4 (aa h2_5 (aa h2_6 (aa h2_3 (aa b2_3 ni2_3))))))
  have b1:=rkI_b (l:=l) (x:=l.getD k 0) (k:=j)
  have b2:=ra (decide (l.getD j 0<l.getD k 0))
  refine ax fL2 ?_
  all_goals try(apply ai;repeat' first|exact ah|apply aa|(apply ak;intro zb hc)|(apply aj;intro zb)|intro j')<;>try apply al
  ·focus
    refine am ((fun(j:Nat)=>l.length - j) (j+1)) (dC fL2 ?_) ⟨j+1,dC fL2 ?_⟩
    all_goals try(apply ai;repeat' first|exact ah|apply aa|(apply ak;intro zb hc)|(apply aj;intro zb)|intro j')<;>try apply al
   rw[pO (by omega)]
  ·focus
    refine am ((fun(k:Nat)=>l.length - k) (k+1)) (dC fL2 ?_) ⟨k+1,dC fL2 ?_⟩
    all_goals try(apply ai;repeat' first|exact ah|apply aa|(apply ak;intro zb hc)|(apply aj;intro zb)|intro j')<;>try apply al
   all_goals(obtain rfl:j=l.length:=by omega)
   rw[az (d:=0) (by omega),List.map_append];rfl
 ·rw[List.take_of_length_le (by omega)];rfl
theorem qp {m0:Bool} (l:List Int) (hl:l.length≤1048576):Fun Tryz.prog 170 [(.sl (.lent m0) (List.map (PV.int .i64) (l)))] [(.sl .own (List.map (PV.int .i64) (lC l)))]:=by
 refine fO aR [2] Tryz.func170 ?_
 refine ax trivial ?_
 all_goals try(apply ai;repeat' first|exact ah|apply aa|(apply ak;intro zb hc)|(apply aj;intro zb)|intro j')<;>try apply al
 refine an (fun ms1 S1=>∃(k:Nat),S1.e 0=.p (.sl (.lent m0) (List.map (PV.int .i64) (l)))∧S1.e 10=.p (.sl (.lent m0) (List.map (PV.int .i64) (l)))∧S1.e 11=.p (.int .i64 (l.length))∧S1.e 12=.p (.int .i64 (k))∧OwnL (S1.e 3) S1.h S1.n (PV.int .i64) (((l.take k).map (fun x=>pP l x l.length)).length) ((l.take k).map (fun x=>pP l x l.length))∧(k≤l.length)∧ms1=l.length - k) ((fun(k:Nat)=>l.length - k) (0)) ?_ ⟨0,jK trivial ?_⟩
 all_goals try(apply ai;repeat' first|exact ah|apply aa|(apply ak;intro zb hc)|(apply aj;intro zb)|intro j')<;>try apply al
 rintro ms1 S1 ⟨k,h1_0,h1_10,h1_11,h1_12,o1_3,c1_0,hm1⟩
 obtain⟨i1_3,h1_3,b1_3,l1_3⟩:=o1_3.out
 have ni1_3:=aG (x:=i1_3) (n:=S1.n)
 have fL1:=(aa h1_0 (aa h1_10 (aa h1_11 (aa h1_12 (aa h1_3 (aa b1_3 ni1_3))))))
 refine ax fL1 ?_
 all_goals try(apply ai;repeat' first|exact ah|apply aa|(apply ak;intro zb hc)|(apply aj;intro zb)|intro j')<;>try apply al
 ·refine an (fun ms2 S2=>∃(j:Nat),S2.e 0=.p (.sl (.lent m0) (List.map (PV.int .i64) (l)))∧S2.e 10=.p (.sl (.lent m0) (List.map (PV.int .i64) (l)))∧S2.e 11=.p (.int .i64 (l.length))∧S2.e 12=.p (.int .i64 (k))∧OwnL (S2.e 3) S2.h S2.n (PV.int .i64) (((l.take k).map (fun x=>pP l x l.length)).length) ((l.take k).map (fun x=>pP l x l.length))∧S2.e 5=.p (.int .i64 (l.getD k 0))∧S2.e 16=.p (.sl (.lent m0) (List.map (PV.int .i64) (l)))∧S2.e 17=.p (.int .i64 (l.length))∧S2.e 18=.p (.int .i64 (j))∧S2.e 6=.p (.int .i64 (pP l (l.getD k 0) j))∧(j≤l.length)∧(k<l.length)∧S1.n≤S2.n∧ms2=l.length - j) ((fun(j:Nat)=>l.length - j) (0)) ?_ ⟨0,jK fL1 ?_⟩
  all_goals try(apply ai;repeat' first|exact ah|apply aa|(apply ak;intro zb hc)|(apply aj;intro zb)|intro j')<;>try apply al
  rintro ms2 S2 ⟨j,h2_0,h2_10,h2_11,h2_12,o2_3,h2_5,h2_16,h2_17,h2_18,h2_6,c2_0,c2_1,u2_0,hm2⟩
  obtain⟨i2_3,h2_3,b2_3,l2_3⟩:=o2_3.out
  have ni2_3:=aG (x:=i2_3) (n:=S2.n)
  have fL2:=(aa h2_0 (aa h2_10 (aa h2_11 (aa h2_12 (aa h2_5 (aa h2_16 (aa h2_17 (aa h2_18 (aa h2_6 (aa h2_3 (aa b2_3 ni2_3)))))))))))
  have b1:=rkI_b (l:=l) (x:=l.getD k 0) (k:=j)
  refine ax fL2 ?_
  all_goals try(apply ai;repeat' first|exact ah|apply aa|(apply ak;intro zb hc)|(apply aj;intro zb)|intro j')<;>try apply al
  ·focus
    refine am ((fun(j:Nat)=>l.length - j) (j+1)) (dC fL2 ?_) ⟨j+1,dC fL2 ?_⟩
    all_goals try(apply ai;repeat' first|exact ah|apply aa|(apply ak;intro zb hc)|(apply aj;intro zb)|intro j')<;>try apply al
   rw[pO (by omega),decide_eq_true hc];rfl
  ·focus
    refine am ((fun(j:Nat)=>l.length - j) (j+1)) (dC fL2 ?_) ⟨j+1,dC fL2 ?_⟩
    all_goals try(apply ai;repeat' first|exact ah|apply aa|(apply ak;intro zb hc)|(apply aj;intro zb)|intro j')<;>try apply al
   rw[pO (by omega),decide_eq_false (by omega)];simp[db]
  ·focus
    refine am ((fun(k:Nat)=>l.length - k) (k+1)) (dC fL2 ?_) ⟨k+1,dC fL2 ?_⟩
    all_goals try(apply ai;repeat' first|exact ah|apply aa|(apply ak;intro zb hc)|(apply aj;intro zb)|intro j')<;>try apply al
   all_goals(obtain rfl:j=l.length:=by omega)
   rw[az (d:=0) (by omega),List.map_append];rfl
 ·rw[List.take_of_length_le (by omega)];rfl
def ct (p:List Int):List Int:=p.map fun v=>(p.length:Int)+1 - v
theorem iQ {m0:Bool} (p:List Int) (hl:p.length≤1048576) (hb:∀x∈p,0≤x∧x≤1048576):Fun Tryz.prog 154 [(.sl (.lent m0) (List.map (PV.int .i64) (p)))] [(.sl .own (List.map (PV.int .i64) (ct p)))]:=by
 refine fO aR [2] Tryz.func154 ?_
 refine ax trivial ?_
 all_goals try(apply ai;repeat' first|exact ah|apply aa|(apply ak;intro zb hc)|(apply aj;intro zb)|intro j')<;>try apply al
 refine an (fun ms1 S1=>∃(k:Nat),S1.e 0=.p (.sl (.lent m0) (List.map (PV.int .i64) (p)))∧S1.e 7=.p (.sl (.lent m0) (List.map (PV.int .i64) (p)))∧S1.e 8=.p (.int .i64 (p.length))∧S1.e 9=.p (.int .i64 (k))∧OwnL (S1.e 3) S1.h S1.n (PV.int .i64) (((p.take k).map (fun v=>(p.length:Int)+1 - v)).length) ((p.take k).map (fun v=>(p.length:Int)+1 - v))∧(k≤p.length)∧ms1=p.length - k) ((fun(k:Nat)=>p.length - k) (0)) ?_ ⟨0,dI trivial ?_⟩
 all_goals try(apply ai;repeat' first|exact ah|apply aa|(apply ak;intro zb hc)|(apply aj;intro zb)|intro j')<;>try apply al
 rintro ms1 S1 ⟨k,h1_0,h1_7,h1_8,h1_9,o1_3,c1_0,hm1⟩
 obtain⟨i1_3,h1_3,b1_3,l1_3⟩:=o1_3.out
 have ni1_3:=aG (x:=i1_3) (n:=S1.n)
 have fL1:=(aa h1_0 (aa h1_7 (aa h1_8 (aa h1_9 (aa h1_3 (aa b1_3 ni1_3))))))
 have b1:k<p.length→0≤p.getD k 0∧p.getD k 0≤1048576:=fun h=>hb _ (ar h)
 refine dE fL1 ?_
 all_goals try(apply ai;repeat' first|exact ah|apply aa|(apply ak;intro zb hc)|(apply aj;intro zb)|intro j')<;>try apply al
 all_goals try have b2:=b1 (by omega)
 all_goals try exact gZ
 ·focus
   refine am ((fun(k:Nat)=>p.length - k) (k+1)) (dC fL1 ?_) ⟨k+1,dC fL1 ?_⟩
   all_goals try(apply ai;repeat' first|exact ah|apply aa|(apply ak;intro zb hc)|(apply aj;intro zb)|intro j')<;>try apply al
  rw[az (d:=0) (by omega),List.map_append];rfl
 ·rw[List.take_of_length_le (by omega)];rfl
theorem gv {m0:Bool} (p:List Int) (hl:p.length≤1048576) (hb:∀x∈p,0≤x∧x≤1048576):Fun Tryz.prog 159 [(.sl (.lent m0) (List.map (PV.int .i64) (p)))] [(.sl .own (List.map (PV.int .i64) (ct p)))]:=by
 refine fO aR [2] Tryz.func159 ?_
 refine ax trivial ?_
 all_goals try(apply ai;repeat' first|exact ah|apply aa|(apply ak;intro zb hc)|(apply aj;intro zb)|intro j')<;>try apply al
 refine an (fun ms1 S1=>∃(k:Nat),S1.e 0=.p (.sl (.lent m0) (List.map (PV.int .i64) (p)))∧S1.e 4=.p (.int .i64 (k))∧OwnL (S1.e 3) S1.h S1.n (PV.int .i64) (((p.take k).map (fun v=>(p.length:Int)+1 - v)).length) ((p.take k).map (fun v=>(p.length:Int)+1 - v))∧(k≤p.length)∧ms1=p.length - k) ((fun(k:Nat)=>p.length - k) (0)) ?_ ⟨0,dI trivial ?_⟩
 all_goals try(apply ai;repeat' first|exact ah|apply aa|(apply ak;intro zb hc)|(apply aj;intro zb)|intro j')<;>try apply al
 rintro ms1 S1 ⟨k,h1_0,h1_4,o1_3,c1_0,hm1⟩
 obtain⟨i1_3,h1_3,b1_3,l1_3⟩:=o1_3.out
 have ni1_3:=aG (x:=i1_3) (n:=S1.n)
 have fL1:=(aa h1_0 (aa h1_4 (aa h1_3 (aa b1_3 ni1_3))))
 have b1:k<p.length→0≤p.getD k 0∧p.getD k 0≤1048576:=fun h=>hb _ (ar h)
 refine dE fL1 ?_
 all_goals try(apply ai;repeat' first|exact ah|apply aa|(apply ak;intro zb hc)|(apply aj;intro zb)|intro j')<;>try apply al
 all_goals try have b2:=b1 (by omega)
 all_goals try exact gZ
 ·focus
   refine am ((fun(k:Nat)=>p.length - k) (k+1)) (dC fL1 ?_) ⟨k+1,dC fL1 ?_⟩
   all_goals try(apply ai;repeat' first|exact ah|apply aa|(apply ak;intro zb hc)|(apply aj;intro zb)|intro j')<;>try apply al
  rw[az (d:=0) (by omega),List.map_append];rfl
 ·rw[List.take_of_length_le (by omega)];rfl
def nB (p:List Int):Nat→List Int
 |0=>List.replicate p.length 0
 |k+1=>(nB p k).set (p.getD k 0 - 1).toNat ((k:Int)+1)
theorem invL_len {p:List Int}:∀{k:Nat},(nB p k).length=p.length
 |0=>by simp[nB]
 |k+1=>by rw[nB,List.length_set,invL_len]
def z7 (p:List Int):List Int:=nB p p.length
theorem io {m0:Bool} (p:List Int) (h8:p.length≤8) (hp:aU p=true):Fun Tryz.prog 145 [(.sl (.lent m0) (List.map (PV.int .i64) (p)))] [(.sl .own (List.map (PV.int .i64) (z7 p)))]:=by
 refine fO aR [2] Tryz.func145 ?_
 refine ax trivial ?_
 all_goals try(apply ai;repeat' first|exact ah|apply aa|(apply ak;intro zb hc)|(apply aj;intro zb)|intro j')<;>try apply al
 refine an (fun ms1 S1=>∃(k:Nat),S1.e 9=.p (.sl (.lent m0) (List.map (PV.int .i64) (p)))∧OwnL (S1.e 3) S1.h S1.n (PV.int .i64) ((nB p k).length) (nB p k)∧S1.e 10=.p (.int .i64 (p.length))∧S1.e 11=.p (.int .i64 (k))∧(k≤p.length)∧ms1=p.length - k) ((fun(k:Nat)=>p.length - k) (0)) ?_ ⟨0,jK trivial ?_⟩
 all_goals try(apply ai;repeat' first|exact ah|apply aa|(apply ak;intro zb hc)|(apply aj;intro zb)|intro j')<;>try apply al
 rintro ms1 S1 ⟨k,h1_9,o1_3,h1_10,h1_11,c1_0,hm1⟩
 obtain⟨i1_3,h1_3,b1_3,l1_3⟩:=o1_3.out
 have ni1_3:=aG (x:=i1_3) (n:=S1.n)
 have fL1:=(aa h1_9 (aa h1_10 (aa h1_11 (aa h1_3 (aa b1_3 ni1_3)))))
 have b1:(nB p k).length=p.length:=invL_len
 have b2:=fun h=>mD hp (i:=k) h
 refine ax fL1 ?_
 all_goals try(apply ai;repeat' first|exact ah|apply aa|(apply ak;intro zb hc)|(apply aj;intro zb)|intro j')<;>try apply al
 ·focus
   refine am ((fun(k:Nat)=>p.length - k) (k+1)) (dC fL1 ?_) ⟨k+1,dC fL1 ?_⟩
   all_goals try(apply ai;repeat' first|exact ah|apply aa|(apply ak;intro zb hc)|(apply aj;intro zb)|intro j')<;>try apply al
  all_goals first|(rw[invL_len,invL_len];done)|skip
 ·obtain rfl:k=p.length:=by omega
  rfl
 ·exact invL_len.symm
theorem mN {p:List Int}:(z7 p).length=p.length:=invL_len
theorem np {f:Int→Int} {l:List Int} (h:l.Nodup) (hf:∀x∈l,∀y∈l,x≠y→f x≠f y):(l.map f).Nodup:=by
 unfold List.Nodup
 rw[List.pairwise_map]
 exact List.Pairwise.imp_of_mem (fun {a b} ha hb hab=>hf a ha b hb hab) h
theorem B1 {l:List Int} {x y:Int} (hx:x∈l) (h:x<y):pP l x l.length<pP l y l.length:=by
 unfold pP
 rw[List.take_length]
 have h1:=mK (fun z=>decide (z<x)) (l.filter fun z=>decide (z<y))
 have h2:((l.filter fun z=>decide (z<y)).filter fun z=>decide (z<x))=l.filter fun z=>decide (z<x):=by
  rw[List.filter_filter]
  refine List.filter_congr fun z _=> ?_
  by_cases hz:z<x
  ·simp[hz,show z<y by omega]
  ·simp[hz]
 have h3:x∈(l.filter fun z=>decide (z<y)).filter fun z=> !decide (z<x):=by
  simp only[List.mem_filter,decide_eq_true_eq,Bool.not_eq_true',decide_eq_false_iff_not]
  exact⟨⟨hx,h⟩,by omega⟩
 have h4:=List.length_pos_of_mem h3
 rw[h2]at h1
 omega
theorem jl {l:List Int}:(lC l).length=l.length:=by simp[lC]
theorem rV {l:List Int} (hn:l.Nodup):aU (lC l)=true:=by
 rw[permB_iff,jl]
 refine⟨fun x hx=> ?_,np hn fun x hx y hy h=> ?_⟩
 ·obtain⟨y,hy,rfl⟩:=List.mem_map.1 hx
  refine⟨rkI_b.1, ?_⟩
  have h1:=mK (fun z=>decide (z<y)) l
  have h2:y∈l.filter fun z=> !decide (z<y):=by simp[hy]
  have h3:=List.length_pos_of_mem h2
  unfold pP
  rw[List.take_length]
  omega
 ·rcases Int.lt_or_gt_of_ne h with h|h
  ·have:=B1 hx h;omega
  ·have:=B1 hy h;omega
theorem fD {p:List Int}:(ct p).length=p.length:=by simp[ct]
theorem sC {p:List Int} (h:aU p=true):aU (ct p)=true:=by
 rw[permB_iff,fD]
 obtain⟨a1,a2⟩:=permB_iff.1 h
 refine⟨fun x hx=> ?_,np a2 fun x _ y _ h=>by omega⟩
 obtain⟨y,hy,rfl⟩:=List.mem_map.1 hx
 have:=a1 y hy
 omega
theorem fR {m0:Bool} (p:List Int) (h8:p.length≤8) (hp:aU p=true):Fun Tryz.prog 128 [(.sl (.lent m0) (List.map (PV.int .i64) (p)))] [(.sl .own (List.map (PV.int .i64) (z7 p)))]:=by
 refine fO aR [2] Tryz.func128 ?_
 refine ax trivial ?_
 all_goals try(apply ai;repeat' first|exact ah|apply aa|(apply ak;intro zb hc)|(apply aj;intro zb)|intro j')<;>try apply al
 refine an (fun ms1 S1=>∃(k:Nat),S1.e 0=.p (.sl (.lent m0) (List.map (PV.int .i64) (p)))∧OwnL (S1.e 3) S1.h S1.n (PV.int .i64) ((nB p k).length) (nB p k)∧S1.e 4=.p (.int .i64 (k))∧(k≤p.length)∧ms1=p.length - k) ((fun(k:Nat)=>p.length - k) (0)) ?_ ⟨0,jK trivial ?_⟩
 all_goals try(apply ai;repeat' first|exact ah|apply aa|(apply ak;intro zb hc)|(apply aj;intro zb)|intro j')<;>try apply al
 rintro ms1 S1 ⟨k,h1_0,o1_3,h1_4,c1_0,hm1⟩
 obtain⟨i1_3,h1_3,b1_3,l1_3⟩:=o1_3.out
 have ni1_3:=aG (x:=i1_3) (n:=S1.n)
 have fL1:=(aa h1_0 (aa h1_4 (aa h1_3 (aa b1_3 ni1_3))))
 have b1:(nB p k).length=p.length:=invL_len
 have b2:=fun h=>mD hp (i:=k) h
 refine ax fL1 ?_
 all_goals try(apply ai;repeat' first|exact ah|apply aa|(apply ak;intro zb hc)|(apply aj;intro zb)|intro j')<;>try apply al
 ·focus
   refine am ((fun(k:Nat)=>p.length - k) (k+1)) (dC fL1 ?_) ⟨k+1,dC fL1 ?_⟩
   all_goals try(apply ai;repeat' first|exact ah|apply aa|(apply ak;intro zb hc)|(apply aj;intro zb)|intro j')<;>try apply al
  all_goals first|(rw[invL_len,invL_len];done)|skip
 ·obtain rfl:k=p.length:=by omega
  rfl
 ·exact invL_len.symm
def dg (g:List Int→Nat→List Int) (p:List Int):Nat→List (List Int)×Nat×Int
 |0=>([],0,0)
 |k+1=>if max (dg g p k).2.2 (p.getD k 0)=k+1 then((dg g p k).1++[g (dA p (dg g p k).2.1 (k+1)) (dg g p k).2.1],k+1,max (dg g p k).2.2 (p.getD k 0))
  else((dg g p k).1,(dg g p k).2.1,max (dg g p k).2.2 (p.getD k 0))
theorem gf {g:List Int→Nat→List Int} {p:List Int}:∀{k:Nat},(dg g p k).2.1≤k∧(dg g p k).1.length≤k
 |0=>by simp[dg]
 |k+1=>by have:=gf (g:=g) (p:=p) (k:=k);rw[dg];split<;>simp<;>omega
def lu (s:List Int) (f:Nat):List Int:=s.map fun x=>x+ -(f:Int)
def lz (s:List Int) (_:Nat):List Int:=lC s
theorem iZ {m0:Bool} (l:List Int) (d:Int) (hl:l.length≤1048576) (hb:∀x∈l, -1000000≤x∧x≤1000000) (hd: -1000000≤d∧d≤1000000):Fun Tryz.prog 175 [(.sl (.lent m0) (List.map (PV.int .i64) (l))),(.int .i64 (d))] [(.sl .own (List.map (PV.int .i64) (l.map (fun x=>x+d))))]:=by
 refine fO aR [4] Tryz.func175 ?_
 refine ax trivial ?_
 all_goals try(apply ai;repeat' first|exact ah|apply aa|(apply ak;intro zb hc)|(apply aj;intro zb)|intro j')<;>try apply al
 refine an (fun ms1 S1=>∃(k:Nat),S1.e 1=.p (.int .i64 (d))∧S1.e 9=.p (.sl (.lent m0) (List.map (PV.int .i64) (l)))∧S1.e 10=.p (.int .i64 (l.length))∧OwnL (S1.e 5) S1.h S1.n (PV.int .i64) (((l.take k).map (fun x=>x+d)).length) ((l.take k).map (fun x=>x+d))∧S1.e 11=.p (.int .i64 (k))∧(k≤l.length)∧ms1=l.length - k) ((fun(k:Nat)=>l.length - k) (0)) ?_ ⟨0,dI trivial ?_⟩
 all_goals try(apply ai;repeat' first|exact ah|apply aa|(apply ak;intro zb hc)|(apply aj;intro zb)|intro j')<;>try apply al
 rintro ms1 S1 ⟨k,h1_1,h1_9,h1_10,o1_5,h1_11,c1_0,hm1⟩
 obtain⟨i1_5,h1_5,b1_5,l1_5⟩:=o1_5.out
 have ni1_5:=aG (x:=i1_5) (n:=S1.n)
 have fL1:=(aa h1_1 (aa h1_9 (aa h1_10 (aa h1_11 (aa h1_5 (aa b1_5 ni1_5))))))
 have b1:k<l.length→ -1000000≤l.getD k 0∧l.getD k 0≤1000000:=fun h=>hb _ (ar h)
 refine dE fL1 ?_
 all_goals try(apply ai;repeat' first|exact ah|apply aa|(apply ak;intro zb hc)|(apply aj;intro zb)|intro j')<;>try apply al
 all_goals try have b2:=b1 (by omega)
 all_goals try exact gZ
 ·focus
   refine am ((fun(k:Nat)=>l.length - k) (k+1)) (dC fL1 ?_) ⟨k+1,dC fL1 ?_⟩
   all_goals try(apply ai;repeat' first|exact ah|apply aa|(apply ak;intro zb hc)|(apply aj;intro zb)|intro j')<;>try apply al
  rw[az (d:=0) (by omega),List.map_append];rfl
 ·rw[List.take_of_length_le (by omega)]
theorem Re {p:List Int} {a b:Nat} (hb:∀x∈p,0≤x∧x≤8):∀x∈dA p a b, -1000000≤x∧x≤1000000:=fun x hx=>by have:=hb x (ib hx);omega
theorem fv {p:List Int} (h:ae p=true):∀x∈p,0≤x∧x≤8:=fun x hx=>by
 simp only[ae,Bool.and_eq_true,decide_eq_true_eq]at h
 have:=(permB_iff.1 h.2).1 x hx;omega
theorem BF {g:List Int→Nat→List Int} {p:List Int} (hb:∀x∈p,0≤x∧x≤8):∀{k:Nat},k≤p.length→0≤(dg g p k).2.2∧(dg g p k).2.2≤8
 |0,_=>by simp[dg]
 |k+1,h=>by
  have h1:=BF (g:=g) hb (k:=k) (by omega)
  have h2:=hb _ (ar (d:=0) (show k<p.length by omega))
  rw[dg];split<;>simp only<;>omega
theorem di {m0:Bool} (p:List Int) (hl:p.length≤8) (hb:∀x∈p,0≤x∧x≤8):Fun Tryz.prog 140 [(.sl (.lent m0) (List.map (PV.int .i64) (p)))] [(.sl .own (List.map (bt false) ((dg lu p p.length).1)))]:=by
 refine fO aR [2] Tryz.func140 ?_
 have cE1:= @iZ
 refine ax trivial ?_
 all_goals try(apply ai;repeat' first|exact ah|apply aa|(apply ak;intro zb hc)|(apply aj;intro zb)|intro j')<;>try apply al
 refine an (fun ms1 S1=>∃(k:Nat),S1.e 9=.p (.sl (.lent m0) (List.map (PV.int .i64) (p)))∧S1.e 10=.p (.int .i64 (p.length))∧S1.e 0=.p (.sl (.lent m0) (List.map (PV.int .i64) (p)))∧OwnL (S1.e 3) S1.h S1.n (bt false) (((dg lu p k).1).length) ((dg lu p k).1)∧S1.e 4=.p (.int .i64 ((dg lu p k).2.1))∧S1.e 5=.p (.int .i64 ((dg lu p k).2.2))∧S1.e 11=.p (.int .i64 (k))∧(k≤p.length)∧ms1=p.length - k) ((fun(k:Nat)=>p.length - k) (0)) ?_ ⟨0,dC trivial ?_⟩
 all_goals try(apply ai;repeat' first|exact ah|apply aa|(apply ak;intro zb hc)|(apply aj;intro zb)|intro j')<;>try apply al
 rintro ms1 S1 ⟨k,h1_9,h1_10,h1_0,o1_3,h1_4,h1_5,h1_11,c1_0,hm1⟩
 obtain⟨i1_3,h1_3,b1_3,l1_3⟩:=o1_3.out
 have ni1_3:=aG (x:=i1_3) (n:=S1.n)
 have fL1:=(aa h1_9 (aa h1_10 (aa h1_0 (aa h1_4 (aa h1_5 (aa h1_11 (aa h1_3 (aa b1_3 ni1_3))))))))
 have b1:=gf (g:=lu) (p:=p) (k:=k)
 have b2:=BF (g:=lu) hb c1_0
 have b3:List.drop (dg lu p k).2.1 (List.take (k+1) p)=dA p (dg lu p k).2.1 (k+1):=rfl
 by_cases hk:k<p.length
 ·have b4:=hb _ (ar (d:=0) hk)
  have b5:(dA p (dg lu p k).2.1 (k+1)).length=k+1 - (dg lu p k).2.1:=ft (by omega)
  have b6:=Re (a:=(dg lu p k).2.1) (b:=k+1) hb
  have b7:((k:Int)+1).toNat=k+1:=by omega
  refine ax (aa fL1 (aa @b3 @b7)) ?_
  all_goals try(apply ai;repeat' first|exact ah|apply aa|(apply ak;intro zb hc)|(apply aj;intro zb)|intro j')<;>try apply al
  ·have x1:dg lu p (k+1)=_:=if_pos hc
   focus
    refine am ((fun(k:Nat)=>p.length - k) (k+1)) (dC fL1 ?_) ⟨k+1,dC fL1 ?_⟩
    all_goals try(apply ai;repeat' first|exact ah|apply aa|(apply ak;intro zb hc)|(apply aj;intro zb)|intro j')<;>try apply al
   all_goals(rw[x1];try simp[lu,lz])
  ·have x1:dg lu p (k+1)=_:=if_neg hc
   focus
    refine am ((fun(k:Nat)=>p.length - k) (k+1)) (dC fL1 ?_) ⟨k+1,dC fL1 ?_⟩
    all_goals try(apply ai;repeat' first|exact ah|apply aa|(apply ak;intro zb hc)|(apply aj;intro zb)|intro j')<;>try apply al
   all_goals(rw[x1])
 ·refine ax fL1 ?_
  all_goals try(apply ai;repeat' first|exact ah|apply aa|(apply ak;intro zb hc)|(apply aj;intro zb)|intro j')<;>try apply al
  obtain rfl:k=p.length:=by omega
  rfl
theorem df {m0:Bool} (p:List Int) (hp:ae p=true):Fun Tryz.prog 126 [(.sl (.lent m0) (List.map (PV.int .i64) (p)))] [(.sl .own (List.map (bt false) ((dg lz p p.length).1)))]:=by
 refine fO aR [2] Tryz.func126 ?_
 have cE1:= @gG;have cE2:= @aq;have cE3:= @fQ
 have hl:=(aw hp).1
 have hb:=fv hp
 refine ax @hp ?_
 all_goals try(apply ai;repeat' first|exact ah|apply aa|(apply ak;intro zb hc)|(apply aj;intro zb)|intro j')<;>try apply al
 refine an (fun ms1 S1=>∃(k:Nat),S1.e 0=.p (.sl (.lent m0) (List.map (PV.int .i64) (p)))∧OwnL (S1.e 3) S1.h S1.n (bt false) (((dg lz p k).1).length) ((dg lz p k).1)∧S1.e 4=.p (.int .i64 ((dg lz p k).2.1))∧S1.e 5=.p (.int .i64 ((dg lz p k).2.2))∧S1.e 6=.p (.int .i64 (k))∧(k≤p.length)∧ms1=p.length - k) ((fun(k:Nat)=>p.length - k) (0)) ?_ ⟨0,dC trivial ?_⟩
 all_goals try(apply ai;repeat' first|exact ah|apply aa|(apply ak;intro zb hc)|(apply aj;intro zb)|intro j')<;>try apply al
 rintro ms1 S1 ⟨k,h1_0,o1_3,h1_4,h1_5,h1_6,c1_0,hm1⟩
 obtain⟨i1_3,h1_3,b1_3,l1_3⟩:=o1_3.out
 have ni1_3:=aG (x:=i1_3) (n:=S1.n)
 have fL1:=(aa h1_0 (aa h1_4 (aa h1_5 (aa h1_6 (aa h1_3 (aa b1_3 ni1_3))))))
 have b1:=gf (g:=lz) (p:=p) (k:=k)
 have b2:=BF (g:=lz) hb c1_0
 have b3:List.drop (dg lz p k).2.1 (List.take (k+1) p)=dA p (dg lz p k).2.1 (k+1):=rfl
 by_cases hk:k<p.length
 ·have b4:=hb _ (ar (d:=0) hk)
  have b5:(dA p (dg lz p k).2.1 (k+1)).length=k+1 - (dg lz p k).2.1:=ft (by omega)
  have b7:((k:Int)+1).toNat=k+1:=by omega
  refine ax (aa fL1 (aa @b3 @b7)) ?_
  all_goals try(apply ai;repeat' first|exact ah|apply aa|(apply ak;intro zb hc)|(apply aj;intro zb)|intro j')<;>try apply al
  ·have x1:dg lz p (k+1)=_:=if_pos hc
   focus
    refine am ((fun(k:Nat)=>p.length - k) (k+1)) (dC fL1 ?_) ⟨k+1,dC fL1 ?_⟩
    all_goals try(apply ai;repeat' first|exact ah|apply aa|(apply ak;intro zb hc)|(apply aj;intro zb)|intro j')<;>try apply al
   all_goals(rw[x1];try simp[lu,lz])
  ·have x1:dg lz p (k+1)=_:=if_neg hc
   focus
    refine am ((fun(k:Nat)=>p.length - k) (k+1)) (dC fL1 ?_) ⟨k+1,dC fL1 ?_⟩
    all_goals try(apply ai;repeat' first|exact ah|apply aa|(apply ak;intro zb hc)|(apply aj;intro zb)|intro j')<;>try apply al
   all_goals(rw[x1])
 ·refine ax fL1 ?_
  all_goals try(apply ai;repeat' first|exact ah|apply aa|(apply ak;intro zb hc)|(apply aj;intro zb)|intro j')<;>try apply al
  obtain rfl:k=p.length:=by omega
  rfl
theorem rA (n:Nat) (h1:n≤1000000):
  Fun Tryz.prog 225 [.sl .own [],.int .i64 n] [.sl .own []]:=by
 refine Fun.of_row 3 Tryz.func225 rfl rfl rfl (fun x hx=>by cases hx) ?_
 intro w F G vs _ hv
 simp only[RepL]at hv
 obtain⟨a,vs1,rfl,ha,b,vs2,rfl,hb,rfl⟩:=hv
 simp only[RepP]at ha hb
 subst hb
 obtain⟨ad,cap,rfl,_,_,hown,_⟩:=ha
 obtain⟨_,rfl,rfl⟩:=hown trivial
 by_cases h0:n=0
 ·subst h0
  refine(Tryz.slices_Grow_room none 0 0 0 w (Nat.le_refl _) (by omega) (by omega) (Nat.le_refl _)).mono ?_
  rintro e w' ⟨rfl,rfl⟩
  exact⟨_,rfl,⟨rfl,.inl ⟨rfl,rfl⟩⟩,Go.RowKit.Below.refl _ _⟩
 ·obtain⟨i0,hi,hz0,hz1,hz2⟩:=info_parts (P:=Tryz.prog) (e:=3) (show(Tryz.prog.info? 3).map (fun i=>(i.zero,i.size,i.bytes))=some (some (.int .i64 0),1,8)by kernel_rfl)
  have key:=Any8.slices_Grow_grow Tryz.laysGrow i0 (.int .i64 0) hi hz0 (by rw[hz1];decide) none 0 0 n [] w (Nat.le_refl _) (by omega) (by rw[hz2];omega) (by omega) (by simp) (fun _=>rfl) (fun a h=>by cases h)
  refine Calls.mono key ?_
  rintro e w' ⟨rfl,rfl⟩
  have g1:=grownCap_ge w (0+n) 0 (Tryz.laysGrow_ren.t 25)
  have g2:=grownCap_le_maxLen w (0+n) 0 (Tryz.laysGrow_ren.t 25) (by unfold maxLen;omega)
  refine⟨_,rfl,⟨rfl,.inr ⟨w.heap.size,grownCap w (0+n) 0 (Tryz.laysGrow_ren.t 25), #[]++Builtin.zeroCells (Value.int IntKind.i64 0).cells (0+n - 0)++Builtin.zeroCells (Value.int IntKind.i64 0).cells (grownCap w (0+n) 0 (Tryz.laysGrow_ren.t 25) - (0+n)),rfl,Nat.le_refl _,(MapKept.heap_alloc w.drew _).1,Nat.zero_le _,g2, ?_,rfl⟩⟩, ?_⟩
  ·simp only[Nat.zero_add]at g1 g2 ⊢
   simp[Builtin.zeroCells,Value.cells]
   omega
  ·exact((Go.RowKit.Below.refl w.heap.size w).drew).alloc (Nat.le_refl _) _
theorem rz (n:Nat) (h1:n≤1000000):Fun Tryz.prog 225 [.sl .own [],.int .i64 n] [.sl .own (List.map (PV.int .i64) [])]:=rA n h1
mutual
def wk:PV→PV
 | .sl .fr xs=>.sl .ro (wkL xs)
 | .sl .ro xs=>.sl .ro (wkL xs)
 | .agg xs=>.agg (wkL xs)
 | .sl .own xs=>.sl .own xs
 | .int k n=>.int k n
 | .bool b=>.bool b
 | .str s=>.str s
 | .fn f a b=>.fn f a b
 | .nilf=>.nilf
 | .pc xs=>.pc xs
 | .any=>.any
 | .dl rows=>.dl rows
 | .bx xs=>.bx xs
 | .nl=>.nl
def wkL:List PV→List PV
 |[]=>[]
 |x::xs=>wk x::wkL xs
end
theorem kK:∀{xs:List PV},(wkL xs).length=xs.length
 |[]=>rfl
 |x::xs=>by simp only[wkL,List.length_cons,kK (xs:=xs)]
theorem xy {α:Type} {f g:α→PV} (h:∀a,wk (f a)=g a):∀{l:List α},wkL (l.map f)=l.map g
 |[]=>rfl
 |x::l=>by simp only[List.map_cons,wkL,h,xy h (l:=l)]
mutual
theorem RepP.wk {w:World} {F G:Nat→Prop}:∀(x:PV) (v:Value),RepP w F G x v→RepP w F G (Gl.wk x) v
 | .int _ _,_,h=>h
 | .bool _,_,h=>h
 | .str _,_,h=>h
 | .nilf,_,h=>h
 | .any,_,_=>trivial
 | .dl _,_,h=>by simp only[RepP]at h
 | .nl,_,h=>h
 | .bx _,_,h=>h
 | .fn _ _ _,_,h=>h
 | .pc _,_,h=>h
 | .sl o xs,v,h=>by
  cases o with
  |own=>exact h
  |ro=>
   simp only[Gl.wk,RepP]at h ⊢
   obtain⟨a,cap,hv,hl,hm,ho,hx⟩:=h
   refine⟨a,cap,by rw[kK];exact hv,by rw[kK];exact hl,hm,fun q=>(by cases q), ?_⟩
   rcases hx with hx|⟨B,off,ha,hF,hG,hc⟩
   ·subst hx;exact .inl (by simp only[wkL])
   ·exact .inr ⟨B,off,ha,hF,fun q=>(by cases q),RepC.wk xs B off hc⟩
  |fr=>
   simp only[Gl.wk,RepP]at h ⊢
   obtain⟨a,cap,hv,hl,hm,ho,hx⟩:=h
   refine⟨a,cap,by rw[kK];exact hv,by rw[kK];exact hl,hm,fun q=>(by cases q), ?_⟩
   rcases hx with hx|⟨B,off,ha,hF,hG,hc⟩
   ·subst hx;exact .inl (by simp only[wkL])
   ·exact .inr ⟨B,off,ha,hF,fun q=>(by cases q),RepC.wk xs B off hc⟩
 | .agg xs,v,h=>by
  simp only[Gl.wk,RepP]at h ⊢
  obtain⟨cs,hv,hx⟩:=h
  exact⟨cs,hv,RepL.wk xs cs hx⟩
theorem RepC.wk {w:World} {F G:Nat→Prop}:∀(xs:List PV) (B o:Nat),RepC w F G B o xs→RepC w F G B o (wkL xs)
 |[],_,_,_=>by simp only[wkL,RepC]
 |x::xs,B,o,h=>by
  simp only[wkL,RepC]at h ⊢
  obtain⟨⟨v,hv,h1,hx⟩,hr⟩:=h
  exact⟨⟨v,hv,h1,RepP.wk x v hx⟩,RepC.wk xs B (o+1) hr⟩
theorem RepL.wk {w:World} {F G:Nat→Prop}:∀(xs:List PV) (vs:List Value),RepL w F G xs vs→RepL w F G (wkL xs) vs
 |[],vs,h=>h
 |x::xs,vs,h=>by
  simp only[wkL,RepL]at h ⊢
  obtain⟨v,vs',rfl,h1,h2⟩:=h
  exact⟨v,vs',rfl,RepP.wk x v h1,RepL.wk xs vs' h2⟩
end
theorem Fun.wk {P:Program} {f:FuncId} {args args' res:List PV} (e:wkL args=args') (h:Fun P f args' res):Fun P f args res:=by
 subst e
 obtain⟨h1,h2,h3,h4,h5⟩:=h
 refine⟨h1,h2,h3,h4,fun w G ι vs amb hG ok hrp=> ?_⟩
 have hlen:(List.map Arg.pv (wkL args)).length=(args.map Arg.pv).length:=by simp only[List.length_map,kK]
 have hH:cm ((wkL args).map .pv)=cm (args.map .pv):=by
  funext j
  unfold cm
  rw[List.getElem?_map,List.getElem?_map]
  cases (wkL args)[j]? <;>cases args[j]? <;>rfl
 have hM:eD ((wkL args).map .pv) ι=eD (args.map .pv) ι:=by funext B;unfold eD;rw[hH]
 have hP:bq false ((wkL args).map .pv) [] res=bq false (args.map .pv) [] res:=by
  unfold bq
  have:ez ((wkL args).map .pv) []=ez (args.map .pv) []:=by
   funext j
   unfold ez
   rw[List.getElem?_map,List.getElem?_map]
   cases (wkL args)[j]? <;>cases args[j]? <;>rfl
  rw[this,hlen]
 have hrep:∀(l:List PV) (vs:List Value) (k:Nat),RepAL w (Held (cm (args.map .pv)) ι) G ι (bK k (l.map .pv)) vs→RepAL w (Held (cm (args.map .pv)) ι) G ι (bK k ((wkL l).map .pv)) vs:=by
  intro l
  induction l with
  |nil=>intro vs k h;exact h
  |cons x l ih=>
   intro vs k h
   simp only[wkL,List.map_cons,bK,Arg.av,RepAL,RepA]at h ⊢
   obtain⟨v,vs',rfl,h1,h2⟩:=h
   exact⟨v,vs',rfl,RepP.wk x v h1,ih _ _ h2⟩
 have key:=h5 w G ι vs (by rw[hM];exact amb) hG (by rw[hM,hH];exact ok) (by rw[hH];exact hrep args vs 0 hrp)
 rw[hM,hP,hlen]at key
 exact key
end Go.Gl
