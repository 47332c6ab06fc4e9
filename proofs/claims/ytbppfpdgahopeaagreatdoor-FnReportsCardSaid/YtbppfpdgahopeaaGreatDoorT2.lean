/-
  What the functions compute, and what the law asks of it: texts joined. Conditions: those that each lemma names.
-/
import Derived.Test.YtbppfpdgahopeaaGreatDoorT1
import Derived.Test.YtbppfpdgahopeaaGreatDoorGlC
import Derived.Shelf.Strings.Builder1
import Derived.Shelf.Strings.Builder2
import Derived.Shelf.Strings.OnBuilder
import Derived.Shelf.Small.Bits
import Derived.Shelf.Strconv.Itoa0
import Derived.Shelf.Strconv.Itoa1
import Derived.Shelf.LaysM
import Derived.Shelf.Strconv.Itoa2
import Derived.Shelf.Strconv.Itoa3
import Derived.Shelf.Slices.Turned
import Derived.Shelf.Slices.Reverse
import Derived.Shelf.Slices.Equal
import Derived.Ground.Names2Prog
import Derived.Shelf.Slices.Clone
import Derived.Shelf.Slices.SearchI
import Derived.Shelf.Slices.Cells
import Derived.Ground.SlgnProg
import Derived.Shelf.SlicesE.Clone
import Derived.Test.YtbppfpdgahopeaaGreatDoorProg
set_option linter.unusedSimpArgs false
set_option linter.unusedVariables false
set_option maxRecDepth 20000
set_option linter.unusedSectionVars false
set_option maxHeartbeats 16000000
namespace Go.Gl
open Go Go.Proofs
variable [Amb] [NoQ]
def qq (l:List Int) (x:Int) (k:Nat):Int:=((l.take k).filter fun y=>decide (y<x)).length+1
def md (l:List Int):List Int:=l.map fun x=>qq l x l.length
theorem qp {l:List Int} {x:Int} {k:Nat} (h:k<l.length):qq l x (k+1)=qq l x k+dM (decide (l.getD k 0<x)):=by
 rw[qq,qq,aX (d:=0) h,List.filter_append,ak,List.filter_cons]
 cases decide (l.getD k 0<x)<;>simp[dM]<;>omega
theorem rkI_b {l:List Int} {x:Int} {k:Nat}:1≤qq l x k∧qq l x k≤l.length+1:=by
 have:=List.length_filter_le (fun y=>decide (y<x)) (l.take k)
 rw[aV]at this
 unfold qq;omega
theorem gr {m0:Bool} (l:List Int) (hl:l.length≤1048576):Fun Tryz.prog 163 [(.sl (.lent m0) (List.map (PV.int .i64) (l)))] [(.sl .own (List.map (PV.int .i64) (md l)))]:=by
 refine fO bA [2] Tryz.func163 ?_
 have cE1:= @eC;have cD1:=iE [false,false,false,false,false,false,false,false,false,false,true,false,false] [(0,10)]
 refine aQ trivial ?_
 all_goals try(apply aq;repeat' first|exact ao|apply aa|(apply au;intro zb hc)|(apply ar;intro zb)|intro j')<;>try apply aw
 refine az (fun ms1 S1=>∃(k:Nat),S1.e 0=.p (.sl (.lent m0) (List.map (PV.int .i64) (l)))∧OwnL (S1.e 3) S1.h S1.n (PV.int .i64) (((l.take k).map (fun x=>qq l x l.length)).length) ((l.take k).map (fun x=>qq l x l.length))∧S1.e 4=.p (.int .i64 (k))∧(k≤l.length)∧ms1=l.length - k) ((fun(k:Nat)=>l.length - k) (0)) ?_ ⟨0,kj trivial ?_⟩
 all_goals try(apply aq;repeat' first|exact ao|apply aa|(apply au;intro zb hc)|(apply ar;intro zb)|intro j')<;>try apply aw
 rintro ms1 S1 ⟨k,h1_0,o1_3,h1_4,c1_0,hm1⟩
 obtain⟨i1_3,h1_3,b1_3,l1_3⟩:=o1_3.out
 have ni1_3:=bi (x:=i1_3) (n:=S1.n)
 have fL1:=(aa h1_0 (aa h1_4 (aa h1_3 (aa b1_3 ni1_3))))
 refine aQ fL1 ?_
 all_goals try(apply aq;repeat' first|exact ao|apply aa|(apply au;intro zb hc)|(apply ar;intro zb)|intro j')<;>try apply aw
 ·refine az (fun ms2 S2=>∃(j:Nat),S2.e 0=.p (.sl (.lent m0) (List.map (PV.int .i64) (l)))∧OwnL (S2.e 3) S2.h S2.n (PV.int .i64) (((l.take k).map (fun x=>qq l x l.length)).length) ((l.take k).map (fun x=>qq l x l.length))∧S2.e 4=.p (.int .i64 (k))∧S2.e 5=.p (.int .i64 (qq l (l.getD k 0) j))∧S2.e 6=.p (.int .i64 (j))∧(j≤l.length)∧(k<l.length)∧S1.n≤S2.n∧ms2=l.length - j) ((fun(j:Nat)=>l.length - j) (0)) ?_ ⟨0,kj fL1 ?_⟩
  all_goals try(apply aq;repeat' first|exact ao|apply aa|(apply au;intro zb hc)|(apply ar;intro zb)|intro j')<;>try apply aw
  rintro ms2 S2 ⟨j,h2_0,o2_3,h2_4,h2_5,h2_6,c2_0,c2_1,u2_0,hm2⟩
  obtain⟨i2_3,h2_3,b2_3,l2_3⟩:=o2_3.out
  have ni2_3:=bi (x:=i2_3) (n:=S2.n)
  have fL2:=(aa h2_0 (aa h2_4 (aa h2_5 (aa h2_6 (aa h2_3 (aa b2_3 ni2_3))))))
  have b1:=rkI_b (l:=l) (x:=l.getD k 0) (k:=j)
  have b2:=rH (decide (l.getD j 0<l.getD k 0))
  refine aQ fL2 ?_
  all_goals try(apply aq;repeat' first|exact ao|apply aa|(apply au;intro zb hc)|(apply ar;intro zb)|intro j')<;>try apply aw
  ·focus
    refine ay ((fun(j:Nat)=>l.length - j) (j+1)) (dC fL2 ?_) ⟨j+1,dC fL2 ?_⟩
    all_goals try(apply aq;repeat' first|exact ao|apply aa|(apply au;intro zb hc)|(apply ar;intro zb)|intro j')<;>try apply aw
   rw[qp (by omega)]
  ·focus
    refine ay ((fun(k:Nat)=>l.length - k) (k+1)) (dC fL2 ?_) ⟨k+1,dC fL2 ?_⟩
    all_goals try(apply aq;repeat' first|exact ao|apply aa|(apply au;intro zb hc)|(apply ar;intro zb)|intro j')<;>try apply aw
   all_goals(obtain rfl:j=l.length:=by omega)
   rw[aX (d:=0) (by omega),aT];rfl
 ·rw[ah (by omega)];rfl
theorem qR {m0:Bool} (l:List Int) (hl:l.length≤1048576):Fun Tryz.prog 170 [(.sl (.lent m0) (List.map (PV.int .i64) (l)))] [(.sl .own (List.map (PV.int .i64) (md l)))]:=by
 refine fO bA [2] Tryz.func170 ?_
 refine aQ trivial ?_
 all_goals try(apply aq;repeat' first|exact ao|apply aa|(apply au;intro zb hc)|(apply ar;intro zb)|intro j')<;>try apply aw
 refine az (fun ms1 S1=>∃(k:Nat),S1.e 0=.p (.sl (.lent m0) (List.map (PV.int .i64) (l)))∧S1.e 10=.p (.sl (.lent m0) (List.map (PV.int .i64) (l)))∧S1.e 11=.p (.int .i64 (l.length))∧S1.e 12=.p (.int .i64 (k))∧OwnL (S1.e 3) S1.h S1.n (PV.int .i64) (((l.take k).map (fun x=>qq l x l.length)).length) ((l.take k).map (fun x=>qq l x l.length))∧(k≤l.length)∧ms1=l.length - k) ((fun(k:Nat)=>l.length - k) (0)) ?_ ⟨0,kj trivial ?_⟩
 all_goals try(apply aq;repeat' first|exact ao|apply aa|(apply au;intro zb hc)|(apply ar;intro zb)|intro j')<;>try apply aw
 rintro ms1 S1 ⟨k,h1_0,h1_10,h1_11,h1_12,o1_3,c1_0,hm1⟩
 obtain⟨i1_3,h1_3,b1_3,l1_3⟩:=o1_3.out
 have ni1_3:=bi (x:=i1_3) (n:=S1.n)
 have fL1:=(aa h1_0 (aa h1_10 (aa h1_11 (aa h1_12 (aa h1_3 (aa b1_3 ni1_3))))))
 refine aQ fL1 ?_
 all_goals try(apply aq;repeat' first|exact ao|apply aa|(apply au;intro zb hc)|(apply ar;intro zb)|intro j')<;>try apply aw
 ·refine az (fun ms2 S2=>∃(j:Nat),S2.e 0=.p (.sl (.lent m0) (List.map (PV.int .i64) (l)))∧S2.e 10=.p (.sl (.lent m0) (List.map (PV.int .i64) (l)))∧S2.e 11=.p (.int .i64 (l.length))∧S2.e 12=.p (.int .i64 (k))∧OwnL (S2.e 3) S2.h S2.n (PV.int .i64) (((l.take k).map (fun x=>qq l x l.length)).length) ((l.take k).map (fun x=>qq l x l.length))∧S2.e 5=.p (.int .i64 (l.getD k 0))∧S2.e 16=.p (.sl (.lent m0) (List.map (PV.int .i64) (l)))∧S2.e 17=.p (.int .i64 (l.length))∧S2.e 18=.p (.int .i64 (j))∧S2.e 6=.p (.int .i64 (qq l (l.getD k 0) j))∧(j≤l.length)∧(k<l.length)∧S1.n≤S2.n∧ms2=l.length - j) ((fun(j:Nat)=>l.length - j) (0)) ?_ ⟨0,kj fL1 ?_⟩
  all_goals try(apply aq;repeat' first|exact ao|apply aa|(apply au;intro zb hc)|(apply ar;intro zb)|intro j')<;>try apply aw
  rintro ms2 S2 ⟨j,h2_0,h2_10,h2_11,h2_12,o2_3,h2_5,h2_16,h2_17,h2_18,h2_6,c2_0,c2_1,u2_0,hm2⟩
  obtain⟨i2_3,h2_3,b2_3,l2_3⟩:=o2_3.out
  have ni2_3:=bi (x:=i2_3) (n:=S2.n)
  have fL2:=(aa h2_0 (aa h2_10 (aa h2_11 (aa h2_12 (aa h2_5 (aa h2_16 (aa h2_17 (aa h2_18 (aa h2_6 (aa h2_3 (aa b2_3 ni2_3)))))))))))
  have b1:=rkI_b (l:=l) (x:=l.getD k 0) (k:=j)
  refine aQ fL2 ?_
  all_goals try(apply aq;repeat' first|exact ao|apply aa|(apply au;intro zb hc)|(apply ar;intro zb)|intro j')<;>try apply aw
  ·focus
    refine ay ((fun(j:Nat)=>l.length - j) (j+1)) (dC fL2 ?_) ⟨j+1,dC fL2 ?_⟩
    all_goals try(apply aq;repeat' first|exact ao|apply aa|(apply au;intro zb hc)|(apply ar;intro zb)|intro j')<;>try apply aw
   rw[qp (by omega),decide_eq_true hc];rfl
  ·focus
    refine ay ((fun(j:Nat)=>l.length - j) (j+1)) (dC fL2 ?_) ⟨j+1,dC fL2 ?_⟩
    all_goals try(apply aq;repeat' first|exact ao|apply aa|(apply au;intro zb hc)|(apply ar;intro zb)|intro j')<;>try apply aw
   rw[qp (by omega),decide_eq_false (by omega)];simp[dM]
  ·focus
    refine ay ((fun(k:Nat)=>l.length - k) (k+1)) (dC fL2 ?_) ⟨k+1,dC fL2 ?_⟩
    all_goals try(apply aq;repeat' first|exact ao|apply aa|(apply au;intro zb hc)|(apply ar;intro zb)|intro j')<;>try apply aw
   all_goals(obtain rfl:j=l.length:=by omega)
   rw[aX (d:=0) (by omega),aT];rfl
 ·rw[ah (by omega)];rfl
def cU (p:List Int):List Int:=p.map fun v=>(p.length:Int)+1 - v
theorem jq {m0:Bool} (p:List Int) (hl:p.length≤1048576) (hb:∀x∈p,0≤x∧x≤1048576):Fun Tryz.prog 154 [(.sl (.lent m0) (List.map (PV.int .i64) (p)))] [(.sl .own (List.map (PV.int .i64) (cU p)))]:=by
 refine fO bA [2] Tryz.func154 ?_
 refine aQ trivial ?_
 all_goals try(apply aq;repeat' first|exact ao|apply aa|(apply au;intro zb hc)|(apply ar;intro zb)|intro j')<;>try apply aw
 refine az (fun ms1 S1=>∃(k:Nat),S1.e 0=.p (.sl (.lent m0) (List.map (PV.int .i64) (p)))∧S1.e 7=.p (.sl (.lent m0) (List.map (PV.int .i64) (p)))∧S1.e 8=.p (.int .i64 (p.length))∧S1.e 9=.p (.int .i64 (k))∧OwnL (S1.e 3) S1.h S1.n (PV.int .i64) (((p.take k).map (fun v=>(p.length:Int)+1 - v)).length) ((p.take k).map (fun v=>(p.length:Int)+1 - v))∧(k≤p.length)∧ms1=p.length - k) ((fun(k:Nat)=>p.length - k) (0)) ?_ ⟨0,dI trivial ?_⟩
 all_goals try(apply aq;repeat' first|exact ao|apply aa|(apply au;intro zb hc)|(apply ar;intro zb)|intro j')<;>try apply aw
 rintro ms1 S1 ⟨k,h1_0,h1_7,h1_8,h1_9,o1_3,c1_0,hm1⟩
 obtain⟨i1_3,h1_3,b1_3,l1_3⟩:=o1_3.out
 have ni1_3:=bi (x:=i1_3) (n:=S1.n)
 have fL1:=(aa h1_0 (aa h1_7 (aa h1_8 (aa h1_9 (aa h1_3 (aa b1_3 ni1_3))))))
 have b1:k<p.length→0≤p.getD k 0∧p.getD k 0≤1048576:=fun h=>hb _ (aF h)
 refine dE fL1 ?_
 all_goals try(apply aq;repeat' first|exact ao|apply aa|(apply au;intro zb hc)|(apply ar;intro zb)|intro j')<;>try apply aw
 all_goals try have b2:=b1 (by omega)
 all_goals try exact iF
 ·focus
   refine ay ((fun(k:Nat)=>p.length - k) (k+1)) (dC fL1 ?_) ⟨k+1,dC fL1 ?_⟩
   all_goals try(apply aq;repeat' first|exact ao|apply aa|(apply au;intro zb hc)|(apply ar;intro zb)|intro j')<;>try apply aw
  rw[aX (d:=0) (by omega),aT];rfl
 ·rw[ah (by omega)];rfl
theorem gZ {m0:Bool} (p:List Int) (hl:p.length≤1048576) (hb:∀x∈p,0≤x∧x≤1048576):Fun Tryz.prog 159 [(.sl (.lent m0) (List.map (PV.int .i64) (p)))] [(.sl .own (List.map (PV.int .i64) (cU p)))]:=by
 refine fO bA [2] Tryz.func159 ?_
 refine aQ trivial ?_
 all_goals try(apply aq;repeat' first|exact ao|apply aa|(apply au;intro zb hc)|(apply ar;intro zb)|intro j')<;>try apply aw
 refine az (fun ms1 S1=>∃(k:Nat),S1.e 0=.p (.sl (.lent m0) (List.map (PV.int .i64) (p)))∧S1.e 4=.p (.int .i64 (k))∧OwnL (S1.e 3) S1.h S1.n (PV.int .i64) (((p.take k).map (fun v=>(p.length:Int)+1 - v)).length) ((p.take k).map (fun v=>(p.length:Int)+1 - v))∧(k≤p.length)∧ms1=p.length - k) ((fun(k:Nat)=>p.length - k) (0)) ?_ ⟨0,dI trivial ?_⟩
 all_goals try(apply aq;repeat' first|exact ao|apply aa|(apply au;intro zb hc)|(apply ar;intro zb)|intro j')<;>try apply aw
 rintro ms1 S1 ⟨k,h1_0,h1_4,o1_3,c1_0,hm1⟩
 obtain⟨i1_3,h1_3,b1_3,l1_3⟩:=o1_3.out
 have ni1_3:=bi (x:=i1_3) (n:=S1.n)
 have fL1:=(aa h1_0 (aa h1_4 (aa h1_3 (aa b1_3 ni1_3))))
 have b1:k<p.length→0≤p.getD k 0∧p.getD k 0≤1048576:=fun h=>hb _ (aF h)
 refine dE fL1 ?_
 all_goals try(apply aq;repeat' first|exact ao|apply aa|(apply au;intro zb hc)|(apply ar;intro zb)|intro j')<;>try apply aw
 all_goals try have b2:=b1 (by omega)
 all_goals try exact iF
 ·focus
   refine ay ((fun(k:Nat)=>p.length - k) (k+1)) (dC fL1 ?_) ⟨k+1,dC fL1 ?_⟩
   all_goals try(apply aq;repeat' first|exact ao|apply aa|(apply au;intro zb hc)|(apply ar;intro zb)|intro j')<;>try apply aw
  rw[aX (d:=0) (by omega),aT];rfl
 ·rw[ah (by omega)];rfl
def od (p:List Int):Nat→List Int
 |0=>List.replicate p.length 0
 |k+1=>(od p k).set (p.getD k 0 - 1).toNat ((k:Int)+1)
theorem invL_len {p:List Int}:∀{k:Nat},(od p k).length=p.length
 |0=>by simp[od]
 |k+1=>by rw[od,List.length_set,invL_len]
def AA (p:List Int):List Int:=od p p.length
theorem iR {m0:Bool} (p:List Int) (h8:p.length≤8) (hp:bD p=true):Fun Tryz.prog 145 [(.sl (.lent m0) (List.map (PV.int .i64) (p)))] [(.sl .own (List.map (PV.int .i64) (AA p)))]:=by
 refine fO bA [2] Tryz.func145 ?_
 refine aQ trivial ?_
 all_goals try(apply aq;repeat' first|exact ao|apply aa|(apply au;intro zb hc)|(apply ar;intro zb)|intro j')<;>try apply aw
 refine az (fun ms1 S1=>∃(k:Nat),S1.e 9=.p (.sl (.lent m0) (List.map (PV.int .i64) (p)))∧OwnL (S1.e 3) S1.h S1.n (PV.int .i64) ((od p k).length) (od p k)∧S1.e 10=.p (.int .i64 (p.length))∧S1.e 11=.p (.int .i64 (k))∧(k≤p.length)∧ms1=p.length - k) ((fun(k:Nat)=>p.length - k) (0)) ?_ ⟨0,kj trivial ?_⟩
 all_goals try(apply aq;repeat' first|exact ao|apply aa|(apply au;intro zb hc)|(apply ar;intro zb)|intro j')<;>try apply aw
 rintro ms1 S1 ⟨k,h1_9,o1_3,h1_10,h1_11,c1_0,hm1⟩
 obtain⟨i1_3,h1_3,b1_3,l1_3⟩:=o1_3.out
 have ni1_3:=bi (x:=i1_3) (n:=S1.n)
 have fL1:=(aa h1_9 (aa h1_10 (aa h1_11 (aa h1_3 (aa b1_3 ni1_3)))))
 have b1:(od p k).length=p.length:=invL_len
 have b2:=fun h=>nb hp (i:=k) h
 refine aQ fL1 ?_
 all_goals try(apply aq;repeat' first|exact ao|apply aa|(apply au;intro zb hc)|(apply ar;intro zb)|intro j')<;>try apply aw
 ·focus
   refine ay ((fun(k:Nat)=>p.length - k) (k+1)) (dC fL1 ?_) ⟨k+1,dC fL1 ?_⟩
   all_goals try(apply aq;repeat' first|exact ao|apply aa|(apply au;intro zb hc)|(apply ar;intro zb)|intro j')<;>try apply aw
  all_goals first|(rw[invL_len,invL_len];done)|skip
 ·obtain rfl:k=p.length:=by omega
  rfl
 ·exact invL_len.symm
theorem nw {p:List Int}:(AA p).length=p.length:=invL_len
theorem nX {f:Int→Int} {l:List Int} (h:l.Nodup) (hf:∀x∈l,∀y∈l,x≠y→f x≠f y):(l.map f).Nodup:=by
 unfold List.Nodup
 rw[List.pairwise_map]
 exact List.Pairwise.imp_of_mem (fun {a b} ha hb hab=>hf a ha b hb hab) h
theorem Cs {l:List Int} {x y:Int} (hx:x∈l) (h:x<y):qq l x l.length<qq l y l.length:=by
 unfold qq
 rw[List.take_length]
 have h1:=np (fun z=>decide (z<x)) (l.filter fun z=>decide (z<y))
 have h2:((l.filter fun z=>decide (z<y)).filter fun z=>decide (z<x))=l.filter fun z=>decide (z<x):=by
  rw[List.filter_filter]
  refine List.filter_congr fun z _=> ?_
  by_cases hz:z<x
  ·simp[hz,show z<y by omega]
  ·simp[hz]
 have h3:x∈(l.filter fun z=>decide (z<y)).filter fun z=> !decide (z<x):=by
  simp only[List.mem_filter,decide_eq_true_eq,Bool.not_eq_true',decide_eq_false_iff_not]
  exact⟨⟨hx,h⟩,by omega⟩
 have h4:=List.length_pos_of_mem h3
 rw[h2]at h1
 omega
theorem jM {l:List Int}:(md l).length=l.length:=by simp[md]
theorem sz {l:List Int} (hn:l.Nodup):bD (md l)=true:=by
 rw[permB_iff,jM]
 refine⟨fun x hx=> ?_,nX hn fun x hx y hy h=> ?_⟩
 ·obtain⟨y,hy,rfl⟩:=List.mem_map.1 hx
  refine⟨rkI_b.1, ?_⟩
  have h1:=np (fun z=>decide (z<y)) l
  have h2:y∈l.filter fun z=> !decide (z<y):=by simp[hy]
  have h3:=List.length_pos_of_mem h2
  unfold qq
  rw[List.take_length]
  omega
 ·rcases Int.lt_or_gt_of_ne h with h|h
  ·have:=Cs hx h;omega
  ·have:=Cs hy h;omega
theorem gc {p:List Int}:(cU p).length=p.length:=by simp[cU]
theorem s8 {p:List Int} (h:bD p=true):bD (cU p)=true:=by
 rw[permB_iff,gc]
 obtain⟨a1,a2⟩:=permB_iff.1 h
 refine⟨fun x hx=> ?_,nX a2 fun x _ y _ h=>by omega⟩
 obtain⟨y,hy,rfl⟩:=List.mem_map.1 hx
 have:=a1 y hy
 omega
theorem gs {m0:Bool} (p:List Int) (h8:p.length≤8) (hp:bD p=true):Fun Tryz.prog 128 [(.sl (.lent m0) (List.map (PV.int .i64) (p)))] [(.sl .own (List.map (PV.int .i64) (AA p)))]:=by
 refine fO bA [2] Tryz.func128 ?_
 refine aQ trivial ?_
 all_goals try(apply aq;repeat' first|exact ao|apply aa|(apply au;intro zb hc)|(apply ar;intro zb)|intro j')<;>try apply aw
 refine az (fun ms1 S1=>∃(k:Nat),S1.e 0=.p (.sl (.lent m0) (List.map (PV.int .i64) (p)))∧OwnL (S1.e 3) S1.h S1.n (PV.int .i64) ((od p k).length) (od p k)∧S1.e 4=.p (.int .i64 (k))∧(k≤p.length)∧ms1=p.length - k) ((fun(k:Nat)=>p.length - k) (0)) ?_ ⟨0,kj trivial ?_⟩
 all_goals try(apply aq;repeat' first|exact ao|apply aa|(apply au;intro zb hc)|(apply ar;intro zb)|intro j')<;>try apply aw
 rintro ms1 S1 ⟨k,h1_0,o1_3,h1_4,c1_0,hm1⟩
 obtain⟨i1_3,h1_3,b1_3,l1_3⟩:=o1_3.out
 have ni1_3:=bi (x:=i1_3) (n:=S1.n)
 have fL1:=(aa h1_0 (aa h1_4 (aa h1_3 (aa b1_3 ni1_3))))
 have b1:(od p k).length=p.length:=invL_len
 have b2:=fun h=>nb hp (i:=k) h
 refine aQ fL1 ?_
 all_goals try(apply aq;repeat' first|exact ao|apply aa|(apply au;intro zb hc)|(apply ar;intro zb)|intro j')<;>try apply aw
 ·focus
   refine ay ((fun(k:Nat)=>p.length - k) (k+1)) (dC fL1 ?_) ⟨k+1,dC fL1 ?_⟩
   all_goals try(apply aq;repeat' first|exact ao|apply aa|(apply au;intro zb hc)|(apply ar;intro zb)|intro j')<;>try apply aw
  all_goals first|(rw[invL_len,invL_len];done)|skip
 ·obtain rfl:k=p.length:=by omega
  rfl
 ·exact invL_len.symm
def dP (g:List Int→Nat→List Int) (p:List Int):Nat→List (List Int)×Nat×Int
 |0=>([],0,0)
 |k+1=>if max (dP g p k).2.2 (p.getD k 0)=k+1 then((dP g p k).1++[g (d8 p (dP g p k).2.1 (k+1)) (dP g p k).2.1],k+1,max (dP g p k).2.2 (p.getD k 0))
  else((dP g p k).1,(dP g p k).2.1,max (dP g p k).2.2 (p.getD k 0))
theorem gM {g:List Int→Nat→List Int} {p:List Int}:∀{k:Nat},(dP g p k).2.1≤k∧(dP g p k).1.length≤k
 |0=>by simp[dP]
 |k+1=>by have:=gM (g:=g) (p:=p) (k:=k);rw[dP];split<;>simp<;>omega
def lX (s:List Int) (f:Nat):List Int:=s.map fun x=>x+ -(f:Int)
def mb (s:List Int) (_:Nat):List Int:=md s
theorem jz {m0:Bool} (l:List Int) (d:Int) (hl:l.length≤1048576) (hb:∀x∈l, -1000000≤x∧x≤1000000) (hd: -1000000≤d∧d≤1000000):Fun Tryz.prog 175 [(.sl (.lent m0) (List.map (PV.int .i64) (l))),(.int .i64 (d))] [(.sl .own (List.map (PV.int .i64) (l.map (fun x=>x+d))))]:=by
 refine fO bA [4] Tryz.func175 ?_
 refine aQ trivial ?_
 all_goals try(apply aq;repeat' first|exact ao|apply aa|(apply au;intro zb hc)|(apply ar;intro zb)|intro j')<;>try apply aw
 refine az (fun ms1 S1=>∃(k:Nat),S1.e 1=.p (.int .i64 (d))∧S1.e 9=.p (.sl (.lent m0) (List.map (PV.int .i64) (l)))∧S1.e 10=.p (.int .i64 (l.length))∧OwnL (S1.e 5) S1.h S1.n (PV.int .i64) (((l.take k).map (fun x=>x+d)).length) ((l.take k).map (fun x=>x+d))∧S1.e 11=.p (.int .i64 (k))∧(k≤l.length)∧ms1=l.length - k) ((fun(k:Nat)=>l.length - k) (0)) ?_ ⟨0,dI trivial ?_⟩
 all_goals try(apply aq;repeat' first|exact ao|apply aa|(apply au;intro zb hc)|(apply ar;intro zb)|intro j')<;>try apply aw
 rintro ms1 S1 ⟨k,h1_1,h1_9,h1_10,o1_5,h1_11,c1_0,hm1⟩
 obtain⟨i1_5,h1_5,b1_5,l1_5⟩:=o1_5.out
 have ni1_5:=bi (x:=i1_5) (n:=S1.n)
 have fL1:=(aa h1_1 (aa h1_9 (aa h1_10 (aa h1_11 (aa h1_5 (aa b1_5 ni1_5))))))
 have b1:k<l.length→ -1000000≤l.getD k 0∧l.getD k 0≤1000000:=fun h=>hb _ (aF h)
 refine dE fL1 ?_
 all_goals try(apply aq;repeat' first|exact ao|apply aa|(apply au;intro zb hc)|(apply ar;intro zb)|intro j')<;>try apply aw
 all_goals try have b2:=b1 (by omega)
 all_goals try exact iF
 ·focus
   refine ay ((fun(k:Nat)=>l.length - k) (k+1)) (dC fL1 ?_) ⟨k+1,dC fL1 ?_⟩
   all_goals try(apply aq;repeat' first|exact ao|apply aa|(apply au;intro zb hc)|(apply ar;intro zb)|intro j')<;>try apply aw
  rw[aX (d:=0) (by omega),aT];rfl
 ·rw[ah (by omega)]
theorem RG {p:List Int} {a b:Nat} (hb:∀x∈p,0≤x∧x≤8):∀x∈d8 p a b, -1000000≤x∧x≤1000000:=fun x hx=>by have:=hb x (iL hx);omega
theorem fZ {p:List Int} (h:al p=true):∀x∈p,0≤x∧x≤8:=fun x hx=>by
 simp only[al,Bool.and_eq_true,decide_eq_true_eq]at h
 have:=(permB_iff.1 h.2).1 x hx;omega
theorem Cb {g:List Int→Nat→List Int} {p:List Int} (hb:∀x∈p,0≤x∧x≤8):∀{k:Nat},k≤p.length→0≤(dP g p k).2.2∧(dP g p k).2.2≤8
 |0,_=>by simp[dP]
 |k+1,h=>by
  have h1:=Cb (g:=g) hb (k:=k) (by omega)
  have h2:=hb _ (aF (d:=0) (show k<p.length by omega))
  rw[dP];split<;>simp only<;>omega
theorem dR {m0:Bool} (p:List Int) (hl:p.length≤8) (hb:∀x∈p,0≤x∧x≤8):Fun Tryz.prog 140 [(.sl (.lent m0) (List.map (PV.int .i64) (p)))] [(.sl .own (List.map (bW false) ((dP lX p p.length).1)))]:=by
 refine fO bA [2] Tryz.func140 ?_
 have cE1:= @jz
 refine aQ trivial ?_
 all_goals try(apply aq;repeat' first|exact ao|apply aa|(apply au;intro zb hc)|(apply ar;intro zb)|intro j')<;>try apply aw
 refine az (fun ms1 S1=>∃(k:Nat),S1.e 9=.p (.sl (.lent m0) (List.map (PV.int .i64) (p)))∧S1.e 10=.p (.int .i64 (p.length))∧S1.e 0=.p (.sl (.lent m0) (List.map (PV.int .i64) (p)))∧OwnL (S1.e 3) S1.h S1.n (bW false) (((dP lX p k).1).length) ((dP lX p k).1)∧S1.e 4=.p (.int .i64 ((dP lX p k).2.1))∧S1.e 5=.p (.int .i64 ((dP lX p k).2.2))∧S1.e 11=.p (.int .i64 (k))∧(k≤p.length)∧ms1=p.length - k) ((fun(k:Nat)=>p.length - k) (0)) ?_ ⟨0,dC trivial ?_⟩
 all_goals try(apply aq;repeat' first|exact ao|apply aa|(apply au;intro zb hc)|(apply ar;intro zb)|intro j')<;>try apply aw
 rintro ms1 S1 ⟨k,h1_9,h1_10,h1_0,o1_3,h1_4,h1_5,h1_11,c1_0,hm1⟩
 obtain⟨i1_3,h1_3,b1_3,l1_3⟩:=o1_3.out
 have ni1_3:=bi (x:=i1_3) (n:=S1.n)
 have fL1:=(aa h1_9 (aa h1_10 (aa h1_0 (aa h1_4 (aa h1_5 (aa h1_11 (aa h1_3 (aa b1_3 ni1_3))))))))
 have b1:=gM (g:=lX) (p:=p) (k:=k)
 have b2:=Cb (g:=lX) hb c1_0
 have b3:List.drop (dP lX p k).2.1 (List.take (k+1) p)=d8 p (dP lX p k).2.1 (k+1):=rfl
 by_cases hk:k<p.length
 ·have b4:=hb _ (aF (d:=0) hk)
  have b5:(d8 p (dP lX p k).2.1 (k+1)).length=k+1 - (dP lX p k).2.1:=fW (by omega)
  have b6:=RG (a:=(dP lX p k).2.1) (b:=k+1) hb
  have b7:((k:Int)+1).toNat=k+1:=by omega
  refine aQ (aa fL1 (aa @b3 @b7)) ?_
  all_goals try(apply aq;repeat' first|exact ao|apply aa|(apply au;intro zb hc)|(apply ar;intro zb)|intro j')<;>try apply aw
  ·have x1:dP lX p (k+1)=_:=if_pos hc
   focus
    refine ay ((fun(k:Nat)=>p.length - k) (k+1)) (dC fL1 ?_) ⟨k+1,dC fL1 ?_⟩
    all_goals try(apply aq;repeat' first|exact ao|apply aa|(apply au;intro zb hc)|(apply ar;intro zb)|intro j')<;>try apply aw
   all_goals(rw[x1];try simp[lX,mb])
  ·have x1:dP lX p (k+1)=_:=if_neg hc
   focus
    refine ay ((fun(k:Nat)=>p.length - k) (k+1)) (dC fL1 ?_) ⟨k+1,dC fL1 ?_⟩
    all_goals try(apply aq;repeat' first|exact ao|apply aa|(apply au;intro zb hc)|(apply ar;intro zb)|intro j')<;>try apply aw
   all_goals(rw[x1])
 ·refine aQ fL1 ?_
  all_goals try(apply aq;repeat' first|exact ao|apply aa|(apply au;intro zb hc)|(apply ar;intro zb)|intro j')<;>try apply aw
  obtain rfl:k=p.length:=by omega
  rfl
theorem dO {m0:Bool} (p:List Int) (hp:al p=true):Fun Tryz.prog 126 [(.sl (.lent m0) (List.map (PV.int .i64) (p)))] [(.sl .own (List.map (bW false) ((dP mb p p.length).1)))]:=by
 refine fO bA [2] Tryz.func126 ?_
 have cE1:= @ij;have cE2:= @aD;have cE3:= @gr
 have hl:=(aK hp).1
 have hb:=fZ hp
 refine aQ @hp ?_
 all_goals try(apply aq;repeat' first|exact ao|apply aa|(apply au;intro zb hc)|(apply ar;intro zb)|intro j')<;>try apply aw
 refine az (fun ms1 S1=>∃(k:Nat),S1.e 0=.p (.sl (.lent m0) (List.map (PV.int .i64) (p)))∧OwnL (S1.e 3) S1.h S1.n (bW false) (((dP mb p k).1).length) ((dP mb p k).1)∧S1.e 4=.p (.int .i64 ((dP mb p k).2.1))∧S1.e 5=.p (.int .i64 ((dP mb p k).2.2))∧S1.e 6=.p (.int .i64 (k))∧(k≤p.length)∧ms1=p.length - k) ((fun(k:Nat)=>p.length - k) (0)) ?_ ⟨0,dC trivial ?_⟩
 all_goals try(apply aq;repeat' first|exact ao|apply aa|(apply au;intro zb hc)|(apply ar;intro zb)|intro j')<;>try apply aw
 rintro ms1 S1 ⟨k,h1_0,o1_3,h1_4,h1_5,h1_6,c1_0,hm1⟩
 obtain⟨i1_3,h1_3,b1_3,l1_3⟩:=o1_3.out
 have ni1_3:=bi (x:=i1_3) (n:=S1.n)
 have fL1:=(aa h1_0 (aa h1_4 (aa h1_5 (aa h1_6 (aa h1_3 (aa b1_3 ni1_3))))))
 have b1:=gM (g:=mb) (p:=p) (k:=k)
 have b2:=Cb (g:=mb) hb c1_0
 have b3:List.drop (dP mb p k).2.1 (List.take (k+1) p)=d8 p (dP mb p k).2.1 (k+1):=rfl
 by_cases hk:k<p.length
 ·have b4:=hb _ (aF (d:=0) hk)
  have b5:(d8 p (dP mb p k).2.1 (k+1)).length=k+1 - (dP mb p k).2.1:=fW (by omega)
  have b7:((k:Int)+1).toNat=k+1:=by omega
  refine aQ (aa fL1 (aa @b3 @b7)) ?_
  all_goals try(apply aq;repeat' first|exact ao|apply aa|(apply au;intro zb hc)|(apply ar;intro zb)|intro j')<;>try apply aw
  ·have x1:dP mb p (k+1)=_:=if_pos hc
   focus
    refine ay ((fun(k:Nat)=>p.length - k) (k+1)) (dC fL1 ?_) ⟨k+1,dC fL1 ?_⟩
    all_goals try(apply aq;repeat' first|exact ao|apply aa|(apply au;intro zb hc)|(apply ar;intro zb)|intro j')<;>try apply aw
   all_goals(rw[x1];try simp[lX,mb])
  ·have x1:dP mb p (k+1)=_:=if_neg hc
   focus
    refine ay ((fun(k:Nat)=>p.length - k) (k+1)) (dC fL1 ?_) ⟨k+1,dC fL1 ?_⟩
    all_goals try(apply aq;repeat' first|exact ao|apply aa|(apply au;intro zb hc)|(apply ar;intro zb)|intro j')<;>try apply aw
   all_goals(rw[x1])
 ·refine aQ fL1 ?_
  all_goals try(apply aq;repeat' first|exact ao|apply aa|(apply au;intro zb hc)|(apply ar;intro zb)|intro j')<;>try apply aw
  obtain rfl:k=p.length:=by omega
  rfl
theorem r8 (n:Nat) (h1:n≤1000000):
  Fun Tryz.prog 225 [.sl .own [],.int .i64 n] [.sl .own []]:=by
 refine Fun.of_row 3 Tryz.func225 rfl rfl rfl (fun x hx=>by cases hx) ?_
 intro w F G vs _ hv
 simp only[RepL]at hv
 obtain⟨a,vs1,rfl,ha,b,vs2,rfl,hb,rfl⟩:=hv
 simp only[RepP]at ha hb
 subst hb
 obtain⟨ad,cap,rfl,_,_,hown,_⟩:=ha
 obtain⟨_,rfl,rfl⟩:=hown trivial
 by_cases h0:n=0
 ·subst h0
  refine(Tryz.slices_Grow_room none 0 0 0 w (am _) (by omega) (by omega) (am _)).mono ?_
  rintro e w' ⟨rfl,rfl⟩
  exact⟨_,rfl,⟨rfl,.inl ⟨rfl,rfl⟩⟩,Go.RowKit.Below.refl _ _⟩
 ·obtain⟨i0,hi,hz0,hz1,hz2⟩:=info_parts (P:=Tryz.prog) (e:=3) (show(Tryz.prog.info? 3).map (fun i=>(i.zero,i.size,i.bytes))=some (some (.int .i64 0),1,8)by kernel_rfl)
  have key:=Any8.slices_Grow_grow Tryz.laysGrow i0 (.int .i64 0) hi hz0 (by rw[hz1];decide) none 0 0 n [] w (am _) (by omega) (by rw[hz2];omega) (by omega) (by simp) (fun _=>rfl) (fun a h=>by cases h)
  refine Calls.mono key ?_
  rintro e w' ⟨rfl,rfl⟩
  have g1:=grownCap_ge w (0+n) 0 (Tryz.laysGrow_ren.t 25)
  have g2:=grownCap_le_maxLen w (0+n) 0 (Tryz.laysGrow_ren.t 25) (by unfold maxLen;omega)
  refine⟨_,rfl,⟨rfl,.inr ⟨w.heap.size,grownCap w (0+n) 0 (Tryz.laysGrow_ren.t 25), #[]++Builtin.zeroCells (Value.int IntKind.i64 0).cells (0+n - 0)++Builtin.zeroCells (Value.int IntKind.i64 0).cells (grownCap w (0+n) 0 (Tryz.laysGrow_ren.t 25) - (0+n)),rfl,am _,(MapKept.heap_alloc w.drew _).1,Nat.zero_le _,g2, ?_,rfl⟩⟩, ?_⟩
  ·simp only[Nat.zero_add]at g1 g2 ⊢
   simp[Builtin.zeroCells,Value.cells]
   omega
  ·exact((Go.RowKit.Below.refl w.heap.size w).drew).alloc (am _) _
theorem r7 (n:Nat) (h1:n≤1000000):Fun Tryz.prog 225 [.sl .own [],.int .i64 n] [.sl .own (List.map (PV.int .i64) [])]:=r8 n h1
mutual
def wk:PV→PV
 | .sl .fr xs=>.sl .ro (wkL xs)
 | .sl .ro xs=>.sl .ro (wkL xs)
 | .agg xs=>.agg (wkL xs)
 | .sl .own xs=>.sl .own xs
 | .int k n=>.int k n
 | .bool b=>.bool b
 | .str s=>.str s
 | .fn f a b=>.fn f a b
 | .nilf=>.nilf
 | .pc xs=>.pc xs
 | .any=>.any
 | .dl rows=>.dl rows
 | .bx xs=>.bx xs
 | .nl=>.nl
def wkL:List PV→List PV
 |[]=>[]
 |x::xs=>wk x::wkL xs
end
theorem ln:∀{xs:List PV},(wkL xs).length=xs.length
 |[]=>rfl
 |x::xs=>by simp only[wkL,aC,ln (xs:=xs)]
theorem xZ {α:Type} {f g:α→PV} (h:∀a,wk (f a)=g a):∀{l:List α},wkL (l.map f)=l.map g
 |[]=>rfl
 |x::l=>by simp only[List.map_cons,wkL,h,xZ h (l:=l)]
mutual
theorem RepP.wk {w:World} {F G:Nat→Prop}:∀(x:PV) (v:Value),RepP w F G x v→RepP w F G (Gl.wk x) v
 | .int _ _,_,h=>h
 | .bool _,_,h=>h
 | .str _,_,h=>h
 | .nilf,_,h=>h
 | .any,_,_=>trivial
 | .dl _,_,h=>by simp only[RepP]at h
 | .nl,_,h=>h
 | .bx _,_,h=>h
 | .fn _ _ _,_,h=>h
 | .pc _,_,h=>h
 | .sl o xs,v,h=>by
  cases o with
  |own=>exact h
  |ro=>
   simp only[Gl.wk,RepP]at h ⊢
   obtain⟨a,cap,hv,hl,hm,ho,hx⟩:=h
   refine⟨a,cap,by rw[ln];exact hv,by rw[ln];exact hl,hm,fun q=>(by cases q), ?_⟩
   rcases hx with hx|⟨B,off,ha,hF,hG,hc⟩
   ·subst hx;exact .inl (by simp only[wkL])
   ·exact .inr ⟨B,off,ha,hF,fun q=>(by cases q),RepC.wk xs B off hc⟩
  |fr=>
   simp only[Gl.wk,RepP]at h ⊢
   obtain⟨a,cap,hv,hl,hm,ho,hx⟩:=h
   refine⟨a,cap,by rw[ln];exact hv,by rw[ln];exact hl,hm,fun q=>(by cases q), ?_⟩
   rcases hx with hx|⟨B,off,ha,hF,hG,hc⟩
   ·subst hx;exact .inl (by simp only[wkL])
   ·exact .inr ⟨B,off,ha,hF,fun q=>(by cases q),RepC.wk xs B off hc⟩
 | .agg xs,v,h=>by
  simp only[Gl.wk,RepP]at h ⊢
  obtain⟨cs,hv,hx⟩:=h
  exact⟨cs,hv,RepL.wk xs cs hx⟩
theorem RepC.wk {w:World} {F G:Nat→Prop}:∀(xs:List PV) (B o:Nat),RepC w F G B o xs→RepC w F G B o (wkL xs)
 |[],_,_,_=>by simp only[wkL,RepC]
 |x::xs,B,o,h=>by
  simp only[wkL,RepC]at h ⊢
  obtain⟨⟨v,hv,h1,hx⟩,hr⟩:=h
  exact⟨⟨v,hv,h1,RepP.wk x v hx⟩,RepC.wk xs B (o+1) hr⟩
theorem RepL.wk {w:World} {F G:Nat→Prop}:∀(xs:List PV) (vs:List Value),RepL w F G xs vs→RepL w F G (wkL xs) vs
 |[],vs,h=>h
 |x::xs,vs,h=>by
  simp only[wkL,RepL]at h ⊢
  obtain⟨v,vs',rfl,h1,h2⟩:=h
  exact⟨v,vs',rfl,RepP.wk x v h1,RepL.wk xs vs' h2⟩
end
theorem Fun.wk {P:Program} {f:FuncId} {args args' res:List PV} (e:wkL args=args') (h:Fun P f args' res):Fun P f args res:=by
 subst e
 obtain⟨h1,h2,h3,h4,h5⟩:=h
 refine⟨h1,h2,h3,h4,fun w G ι vs amb hG ok hrp=> ?_⟩
 have hlen:(List.map Arg.pv (wkL args)).length=(args.map Arg.pv).length:=by simp only[an,ln]
 have hH:cP ((wkL args).map .pv)=cP (args.map .pv):=by
  funext j
  unfold cP
  rw[ax,ax]
  cases (wkL args)[j]? <;>cases args[j]? <;>rfl
 have hM:fm ((wkL args).map .pv) ι=fm (args.map .pv) ι:=by funext B;unfold fm;rw[hH]
 have hP:bU false ((wkL args).map .pv) [] res=bU false (args.map .pv) [] res:=by
  unfold bU
  have:fi ((wkL args).map .pv) []=fi (args.map .pv) []:=by
   funext j
   unfold fi
   rw[ax,ax]
   cases (wkL args)[j]? <;>cases args[j]? <;>rfl
  rw[this,hlen]
 have hrep:∀(l:List PV) (vs:List Value) (k:Nat),RepAL w (Held (cP (args.map .pv)) ι) G ι (cr k (l.map .pv)) vs→RepAL w (Held (cP (args.map .pv)) ι) G ι (cr k ((wkL l).map .pv)) vs:=by
  intro l
  induction l with
  |nil=>intro vs k h;exact h
  |cons x l ih=>
   intro vs k h
   simp only[wkL,List.map_cons,cr,Arg.av,RepAL,RepA]at h ⊢
   obtain⟨v,vs',rfl,h1,h2⟩:=h
   exact⟨v,vs',rfl,RepP.wk x v h1,ih _ _ h2⟩
 have key:=h5 w G ι vs (by rw[hM];exact amb) hG (by rw[hM,hH];exact ok) (by rw[hH];exact hrep args vs 0 hrp)
 rw[hM,hP,hlen]at key
 exact key
theorem xH {l:List Int} {a:Int} (hn:l.Nodup) (hb:∀x∈l,a<x∧x≤a+l.length) {x:Int} (hx:x∈l):((l.filter fun y=>decide (y<x)).length:Int)=x - a - 1:=by
 have h1:=hb x hx
 have h2:(l.filter fun y=>decide (y<x)).length≤(x - a - 1).toNat:=kW (a:=a) (List.Nodup.sublist List.filter_sublist hn) fun y hy=>by
  simp only[List.mem_filter,decide_eq_true_eq]at hy
  have:=hb y hy.1;omega
 have h3:(l.filter fun y=> !decide (y<x)).length≤(a+l.length - (x - 1)).toNat:=kW (a:=x - 1) (List.Nodup.sublist List.filter_sublist hn) fun y hy=>by
  simp only[List.mem_filter,Bool.not_eq_true',decide_eq_false_iff_not]at hy
  have:=hb y hy.1;omega
 have h4:=np (fun y=>decide (y<x)) l
 omega
theorem wX {l:List Int} {a:Int} (hn:l.Nodup) (hb:∀x∈l,a<x∧x≤a+l.length):md l=l.map fun x=>x+ -a:=by
 refine List.map_congr_left fun x hx=> ?_
 rw[qq,List.take_length,xH hn hb hx];omega
theorem DN {p:List Int} {x:Int} {a b:Nat} (h:x∈d8 p a b):∃j,a≤j∧j<b∧j<p.length∧p.getD j 0=x:=by
 obtain⟨i,hi,rfl⟩:=bh h
 simp only[d8,List.length_drop,aV]at hi
 refine⟨a+i,by omega,by omega,by omega, ?_⟩
 simp only[d8,List.getElem_drop,List.getElem_take,ac]
 rw[ae (by omega)];rfl
theorem ub {p:List Int} {g:List Int→Nat→List Int}:∀{k:Nat},k≤p.length→∀j,j<k→p.getD j 0≤(dP g p k).2.2
 |k+1,h,j,hj=>by
  have ih:=ub (g:=g) (p:=p) (k:=k) (by omega)
  have e:(dP g p (k+1)).2.2=max (dP g p k).2.2 (p.getD k 0):=by rw[dP];split<;>rfl
  rw[e]
  by_cases hk:j=k
  ·subst hk;omega
  ·have:=ih j (by omega);omega
theorem uM {p:List Int} {g:List Int→Nat→List Int} (hp:bD p=true):∀{k:Nat},k≤p.length→∀j,j<(dP g p k).2.1→p.getD j 0≤(dP g p k).2.1
 |0,_,j,hj=>by simp[dP]at hj
 |k+1,h,j,hj=>by
  rw[dP]at hj ⊢
  split at hj
  ·rename_i e
   rw[if_pos e]
   simp only at hj ⊢
   have:=ub (g:=g) h j hj
   have e2:(dP g p (k+1)).2.2=max (dP g p k).2.2 (p.getD k 0):=by rw[dP];split<;>rfl
   push_cast;omega
  ·rename_i e
   rw[if_neg e]
   exact uM hp (by omega) j hj
theorem mg {p:List Int} (h:p.Nodup) {a b:Nat}:(d8 p a b).Nodup:=List.Nodup.sublist ((List.drop_sublist _ _).trans (List.take_sublist _ _)) h
theorem Cp {p:List Int} (hp:bD p=true) {f b:Nat} (hb:b≤p.length) (hf:f≤b) (h1:∀j,j<f→p.getD j 0≤f) (h2:∀j,j<b→p.getD j 0≤b):∀x∈d8 p f b,(f:Int)<x∧x≤f+(d8 p f b).length:=by
 intro x hx
 obtain⟨j,j1,j2,j3,rfl⟩:=DN hx
 have hq:=permB_iff.1 hp
 rw[fW hb]
 refine⟨?_,by have:=h2 j j2;omega⟩
 by_cases hlt:(f:Int)<p.getD j 0
 ·exact hlt
 ·exfalso
  have l1:(p.getD j 0::p.take f).length≤f:=kW (a:=0) (by
   rw[List.nodup_cons]
   refine⟨fun hm=> ?_,List.Nodup.sublist (List.take_sublist _ _) hq.2⟩
   obtain⟨i,hi,e⟩:=bh hm
   rw[List.getElem_take]at e
   have e2:p[i]'(by simp at hi;omega)=p[j]:=by rw[e,ac,ae j3];rfl
   have:=(List.getElem_inj hq.2).1 e2
   simp at hi;omega) fun x hx=>by
   rcases List.mem_cons.1 hx with rfl|hx
   ·have:=hq.1 _ (aF (d:=0) j3);omega
   ·obtain⟨i,hi,rfl⟩:=bh hx
    simp at hi
    have m1:=h1 i (by omega)
    rw[List.getElem_take]
    rw[ac,ae (by omega)]at m1
    have m2:=hq.1 _ (List.getElem_mem (l:=p) (show i<p.length by omega))
    simp only[Option.getD_some]at m1
    omega
  simp at l1;omega
theorem B9 {p:List Int} (hp:bD p=true):∀{k:Nat},k≤p.length→dP mb p k=dP lX p k
 |0,_=>rfl
 |k+1,h=>by
  have ih:=B9 hp (k:=k) (by omega)
  rw[dP,dP,ih]
  split
  ·rename_i e
   have hm:=ub (g:=lX) h
   have e2:(dP lX p (k+1)).2.2=max (dP lX p k).2.2 (p.getD k 0):=by rw[dP];split<;>rfl
   have hf:=(gM (g:=lX) (p:=p) (k:=k)).1
   have hx:=Cp hp (f:=(dP lX p k).2.1) (b:=k+1) h (by omega) (uM hp (by omega)) (fun j hj=>by have:=hm j hj;push_cast;omega)
   have:mb (d8 p (dP lX p k).2.1 (k+1)) (dP lX p k).2.1=lX (d8 p (dP lX p k).2.1 (k+1)) (dP lX p k).2.1:=wX (mg (permB_iff.1 hp).2) hx
   rw[this]
  ·rfl
theorem oz {L:List (List Int)} {k:Nat} (h:k<L.length):(L.take (k+1)).flatten=(L.take k).flatten++L.getD k []:=by
 rw[aX (d:=[]) h,List.flatten_append];simp
theorem un {L:List (List Int)} {n:Nat} (hl:∀l∈L,l.length≤n):∀{k:Nat},k≤L.length→(L.take k).flatten.length≤k*n
 |0,_=>by simp
 |k+1,h=>by
  have h1:=un hl (k:=k) (by omega)
  have h2:=hl _ (aF (d:=[]) (show k<L.length by omega))
  rw[oz (by omega),ak,Nat.succ_mul];omega
def wQ:FuncId→List Bool:=fun f=>if f=225 then[true]else[]
theorem Fy {f:FuncId}:wQ f=if f=225 then[true]else[]:=_root_.id rfl
theorem Br:gk wQ=false∧gG wQ=false∧gF wQ=false∧gE wQ=false∧gH wQ=false:=⟨rfl,rfl,rfl,rfl,rfl⟩
attribute [go_sem] Fy Br
theorem du {e0 m0:Bool} (L:List (List Int)) (hL:L.length≤1000) (hl:∀l∈L,l.length≤1000):Fun Tryz.prog 214 [(.sl (.lent m0) (List.map (bW e0) (L)))] [(.sl .own (List.map (PV.int .i64) (L.flatten)))]:=by
 refine fO wQ [2] Tryz.func214 ?_
 refine aQ trivial ?_
 all_goals try(apply aq;repeat' first|exact ao|apply aa|(apply au;intro zb hc)|(apply ar;intro zb)|intro j')<;>try apply aw
 refine az (fun ms1 S1=>∃(k:Nat),S1.e 0=.p (.sl (.lent m0) (List.map (bW e0) (L)))∧S1.e 9=.p (.sl (.lent m0) (List.map (bW e0) (L)))∧S1.e 10=.p (.int .i64 (L.length))∧S1.e 11=.p (.int .i64 (k))∧S1.e 3=.p (.int .i64 ((L.take k).flatten.length))∧(k≤L.length)∧ms1=L.length - k) ((fun(k:Nat)=>L.length - k) (0)) ?_ ⟨0,dI trivial ?_⟩
 all_goals try(apply aq;repeat' first|exact ao|apply aa|(apply au;intro zb hc)|(apply ar;intro zb)|intro j')<;>try apply aw
 rintro ms1 S1 ⟨k,h1_0,h1_9,h1_10,h1_11,h1_3,c1_0,hm1⟩
 have fL1:=(aa h1_0 (aa h1_9 (aa h1_10 (aa h1_11 h1_3))))
 have b1:=un hl c1_0
 have b2:=Nat.mul_le_mul c1_0 (am 1000)
 have b3:k<L.length→(L.getD k []).length≤1000:=fun h=>hl _ (aF h)
 have cX1:= @r7
 refine dE fL1 ?_
 all_goals try(apply aq;repeat' first|exact ao|apply aa|(apply au;intro zb hc)|(apply ar;intro zb)|intro j')<;>try apply aw
 all_goals try have b4:=b3 (by omega)
 all_goals try exact iF
 ·focus
   refine ay ((fun(k:Nat)=>L.length - k) (k+1)) (dC fL1 ?_) ⟨k+1,dC fL1 ?_⟩
   all_goals try(apply aq;repeat' first|exact ao|apply aa|(apply au;intro zb hc)|(apply ar;intro zb)|intro j')<;>try apply aw
  rw[oz (by omega),ak];push_cast;rfl
 ·refine az (fun ms2 S2=>∃(j:Nat),S2.e 25=.p (.sl (.lent m0) (List.map (bW e0) (L)))∧S2.e 26=.p (.int .i64 (L.length))∧S2.e 27=.p (.int .i64 (j))∧OwnL (S2.e 6) S2.h S2.n (PV.int .i64) (((L.take j).flatten).length) ((L.take j).flatten)∧(j≤L.length)∧S1.n≤S2.n∧ms2=L.length - j) ((fun(j:Nat)=>L.length - j) (0)) ?_ ⟨0,dI fL1 ?_⟩
  all_goals try(apply aq;repeat' first|exact ao|apply aa|(apply au;intro zb hc)|(apply ar;intro zb)|intro j')<;>try apply aw
  rintro ms2 S2 ⟨j,h2_25,h2_26,h2_27,o2_6,c2_0,u2_0,hm2⟩
  obtain⟨i2_6,h2_6,b2_6,l2_6⟩:=o2_6.out
  have ni2_6:=bi (x:=i2_6) (n:=S2.n)
  have fL2:=(aa h2_25 (aa h2_26 (aa h2_27 (aa h2_6 (aa b2_6 ni2_6)))))
  have b5:=un hl c2_0
  have b6:=Nat.mul_le_mul c2_0 (am 1000)
  have b7:j<L.length→(L.getD j []).length≤1000:=fun h=>hl _ (aF h)
  have cX1:=trivial
  refine dE fL2 ?_
  all_goals try(apply aq;repeat' first|exact ao|apply aa|(apply au;intro zb hc)|(apply ar;intro zb)|intro j')<;>try apply aw
  all_goals try have b8:=b7 (by omega)
  all_goals try exact iF
  ·focus
    refine ay ((fun(j:Nat)=>L.length - j) (j+1)) (dC fL2 ?_) ⟨j+1,dC fL2 ?_⟩
    all_goals try(apply aq;repeat' first|exact ao|apply aa|(apply au;intro zb hc)|(apply ar;intro zb)|intro j')<;>try apply aw
   all_goals(rw[oz (by omega)]<;>simp only[ak])
  ·rw[ah (by omega)]
theorem cc2 {m e1 e2:Bool} (a b:List Int) (ha:a.length≤1000) (hb:b.length≤1000):Fun Tryz.prog 214 [.sl (.lent m) [.sl (.lent e1) (a.map (PV.int .i64)),.sl (.lent e2) (b.map (PV.int .i64))]] [.sl .own ((a++b).map (PV.int .i64))]:=by
 have h:=du (m0:=true) (e0:=true) [a,b] (by simp) (fun l hl=>by simp at hl;rcases hl with rfl|rfl<;>assumption)
 simp only[List.flatten_cons,List.flatten_nil,aN]at h
 refine Fun.wk ?_ h
 have hi:∀a:Int,wk (PV.int .i64 a)=PV.int .i64 a:=fun _=>rfl
 cases m<;>cases e1<;>cases e2<;>simp[wkL,wk,Fl.lent,xZ hi,bW]
def nL (a b:List Int) (skew:Bool):List Int:=if skew then a.map (fun x=>x+(b.length:Int))++b else a++b.map (fun x=>x+(a.length:Int))
theorem pX {a b:List Int} {k:Bool}:(nL a b k).length=a.length+b.length:=by cases k<;>simp[nL]
theorem xp {m0 m1:Bool} (a:List Int) (b:List Int) (k:Bool) (h1:a.length≤1000) (h2:b.length≤1000) (h3:∀x∈a, -1000000≤x∧x≤1000000) (h4:∀x∈b, -1000000≤x∧x≤1000000):Fun Tryz.prog 192 [(.sl (.lent m0) (List.map (PV.int .i64) (a))),(.sl (.lent m1) (List.map (PV.int .i64) (b))),(.bool (k))] [(.sl .own (List.map (PV.int .i64) (nL a b k)))]:=by
 refine fO bA [6] Tryz.func192 ?_
 have cE1:= @jz;have cE2:= @du
 have cE1:= @cc2;have cE2:= @jz;have cE3:= @du
 refine aQ trivial ?_
 all_goals try(apply aq;repeat' first|exact ao|apply aa|(apply au;intro zb hc)|(apply ar;intro zb)|intro j')<;>try apply aw
 all_goals(subst hc;simp[nL])
theorem wz {a b:List Int} {n:Nat} (ha:bD a=true) (hb:bD b=true) (e:n=b.length):(a.map fun x=>x+(n:Int)).Nodup∧(∀x∈a.map fun x=>x+(n:Int),(b.length:Int)<x∧x≤a.length+b.length):=by
 subst e
 obtain⟨a1,a2⟩:=permB_iff.1 ha
 refine⟨nX a2 fun x _ y _ h=>by omega,fun x hx=> ?_⟩
 obtain⟨y,hy,rfl⟩:=List.mem_map.1 hx
 have:=a1 y hy
 omega
theorem zO {a b:List Int} {k:Bool} (ha:bD a=true) (hb:bD b=true):bD (nL a b k)=true:=by
 rw[permB_iff,pX]
 obtain⟨a1,a2⟩:=permB_iff.1 ha
 obtain⟨b1,b2⟩:=permB_iff.1 hb
 cases k
 ·obtain⟨h1,h2⟩:=wz (n:=a.length) hb ha rfl
  simp only[nL,Bool.false_eq_true,if_false]
  refine⟨fun x hx=> ?_,List.nodup_append.2 ⟨a2,h1,fun x hx y hy e=> ?_⟩⟩
  ·rcases List.mem_append.1 hx with hx|hx
   ·have:=a1 x hx;omega
   ·have:=h2 x hx;omega
  ·have:=a1 x hx;have:=h2 y hy;omega
 ·obtain⟨h1,h2⟩:=wz (n:=b.length) ha hb rfl
  simp only[nL,if_true]
  refine⟨fun x hx=> ?_,List.nodup_append.2 ⟨h1,b2,fun x hx y hy e=> ?_⟩⟩
  ·rcases List.mem_append.1 hx with hx|hx
   ·have:=h2 x hx;omega
   ·have:=b1 x hx;omega
  ·have:=h2 x hx;have:=b1 y hy;omega
def ew (L:List (List Int)) (k:Bool):List Int:=L.foldl (fun t p=>nL t p k) []
theorem iO {L:List (List Int)} {k:Bool} {j:Nat} (h:j<L.length):ew (L.take (j+1)) k=nL (ew (L.take j) k) (L.getD j []) k:=by
 rw[aX (d:=[]) h,ew,List.foldl_append];rfl
def cQ (L:List (List Int)):Nat:=(L.map List.length).sum
theorem iB {L:List (List Int)} {j:Nat} (h:j<L.length):cQ (L.take (j+1))=cQ (L.take j)+(L.getD j []).length:=by
 rw[aX (d:=[]) h,cQ,aT,List.sum_append];simp[cQ]
theorem ly {L:List (List Int)} {k:Bool}:∀{j:Nat},j≤L.length→(ew (L.take j) k).length=cQ (L.take j)
 |0,_=>rfl
 |j+1,h=>by rw[iO (by omega),iB (by omega),pX,ly (by omega)]
theorem mn {L:List (List Int)} {k:Bool} (hL:∀l∈L,bD l=true):∀{j:Nat},j≤L.length→bD (ew (L.take j) k)=true
 |0,_=>by rfl
 |j+1,h=>by rw[iO (by omega)];exact zO (mn hL (by omega)) (hL _ (aF (by omega)))
theorem fD {L:List (List Int)}:∀{j:Nat},cQ (L.take j)≤cQ L:=fun {j}=>by
 have:cQ L=cQ (L.take j)+cQ (L.drop j):=by
  unfold cQ;rw[←List.sum_append,←aT,List.take_append_drop]
 omega
theorem As {L:List (List Int)}:∀{j:Nat},cQ (L.drop j)≤cQ L:=fun {j}=>by
 have:cQ L=cQ (L.take j)+cQ (L.drop j):=by
  unfold cQ;rw[←List.sum_append,←aT,List.take_append_drop]
 omega
theorem vu {L:List (List Int)} {l:List Int} (h:l∈L):l.length≤cQ L:=by
 induction L with
 |nil=>cases h
 |cons x L ih=>
  have e:cQ (x::L)=x.length+cQ L:=by simp[cQ]
  rcases List.mem_cons.1 h with rfl|h
  ·omega
  ·have:=ih h;omega
theorem yJ {L:List (List Int)} {k:Bool} (hl:∀l∈L,l.length≤8) (hb:∀l∈L,∀x∈l,0≤x∧x≤8):∀{j:Nat},j≤L.length→j≤8→(ew (L.take j) k).length≤8*j∧∀x∈ew (L.take j) k,0≤x∧x≤100*j
 |0,_,_=>⟨Nat.zero_le _,fun x hx=>by cases hx⟩
 |j+1,h,h8=>by
  obtain⟨h1,h2⟩:=yJ (k:=k) hl hb (j:=j) (by omega) (by omega)
  have h3:=hl _ (aF (d:=[]) (show j<L.length by omega))
  have h4:=hb _ (aF (d:=[]) (show j<L.length by omega))
  rw[iO (by omega)]
  refine⟨by rw[pX];omega,fun x hx=> ?_⟩
  cases k
  ·simp only[nL,Bool.false_eq_true,if_false,List.mem_append,List.mem_map]at hx
   rcases hx with hx|⟨y,hy,rfl⟩
   ·have:=h2 x hx;omega
   ·have:=h4 y hy;omega
  ·simp only[nL,if_true,List.mem_append,List.mem_map]at hx
   rcases hx with⟨y,hy,rfl⟩|hx
   ·have:=h2 y hy;omega
   ·have:=h4 x hx;omega
theorem oo {e0 m0:Bool} (L:List (List Int)) (k:Bool) (hL:L.length≤8) (hl:∀l∈L,l.length≤8) (hb:∀l∈L,∀x∈l,0≤x∧x≤8):Fun Tryz.prog 167 [(.sl (.lent m0) (List.map (bW e0) (L))),(.bool (k))] [(.sl .own (List.map (PV.int .i64) (ew L k)))]:=by
 refine fO bA [4] Tryz.func167 ?_
 have cE1:= @xp
 refine aQ trivial ?_
 all_goals try(apply aq;repeat' first|exact ao|apply aa|(apply au;intro zb hc)|(apply ar;intro zb)|intro j')<;>try apply aw
 refine az (fun ms1 S1=>∃(j:Nat),S1.e 1=.p (.bool (k))∧S1.e 9=.p (.sl (.lent m0) (List.map (bW e0) (L)))∧S1.e 10=.p (.int .i64 (L.length))∧S1.e 11=.p (.int .i64 (j))∧OwnL (S1.e 5) S1.h S1.n (PV.int .i64) ((ew (L.take j) k).length) (ew (L.take j) k)∧(j≤L.length)∧ms1=L.length - j) ((fun(j:Nat)=>L.length - j) (0)) ?_ ⟨0,dI trivial ?_⟩
 all_goals try(apply aq;repeat' first|exact ao|apply aa|(apply au;intro zb hc)|(apply ar;intro zb)|intro j')<;>try apply aw
 rintro ms1 S1 ⟨j,h1_1,h1_9,h1_10,h1_11,o1_5,c1_0,hm1⟩
 obtain⟨i1_5,h1_5,b1_5,l1_5⟩:=o1_5.out
 have ni1_5:=bi (x:=i1_5) (n:=S1.n)
 have fL1:=(aa h1_1 (aa h1_9 (aa h1_10 (aa h1_11 (aa h1_5 (aa b1_5 ni1_5))))))
 obtain⟨b1,b2⟩:=yJ (k:=k) hl hb c1_0 (by omega)
 have b3:j<L.length→(L.getD j []).length≤8∧∀x∈L.getD j [],0≤x∧x≤8:=fun h=>⟨hl _ (aF h),hb _ (aF h)⟩
 have b4:∀x∈ew (L.take j) k, -1000000≤x∧x≤1000000:=fun x hx=>by have:=b2 x hx;omega
 refine dE fL1 ?_
 all_goals try(apply aq;repeat' first|exact ao|apply aa|(apply au;intro zb hc)|(apply ar;intro zb)|intro j')<;>try apply aw
 all_goals try have b5:=(b3 (by omega)).1
 all_goals try have b6:=(b3 (by omega)).2
 all_goals try have b7:∀x∈L.getD j [], -1000000≤x∧x≤1000000:=fun x hx=>by have:=b6 x hx;omega
 all_goals try exact iF
 ·focus
   refine ay ((fun(j:Nat)=>L.length - j) (j+1)) (dC fL1 ?_) ⟨j+1,dC fL1 ?_⟩
   all_goals try(apply aq;repeat' first|exact ao|apply aa|(apply au;intro zb hc)|(apply ar;intro zb)|intro j')<;>try apply aw
  all_goals(rw[iO (by omega)])
 ·rw[ah (by omega)]
def bu (p:List Int):List (List Int):=(dP lX p p.length).1
def qF (L:List (List Int)) (j:Nat):List (List Int):=(L.take j).map cU++L.drop j
theorem qE {L:List (List Int)} {j:Nat}:(qF L j).length=L.length:=by simp[qF];omega
theorem GL {L:List (List Int)} {j:Nat} (h:j<L.length):(qF L j).getD j []=L.getD j []:=by
 simp only[qF,ac]
 rw[aM (by simp;omega)]
 simp[Nat.min_eq_left (Nat.le_of_lt h)]
theorem C7 {L:List (List Int)} {j:Nat} (h:j<L.length):(qF L j).set j (cU (L.getD j []))=qF L (j+1):=by
 simp only[qF]
 rw[List.set_append_right _ _ (by simp;omega),an,aV,Nat.min_eq_left (by omega),Nat.sub_self,aX (d:=[]) h]
 rw[show L.drop j=L.getD j []::L.drop (j+1)by rw[ac,ae h];exact(List.drop_eq_getElem_cons h)]
 simp
theorem nR {p:List Int} (hp:bD p=true):∀{k:Nat},k≤p.length→(∀l∈(dP mb p k).1,bD l=true)∧cQ (dP mb p k).1=(dP mb p k).2.1
 |0,_=>⟨fun l hl=>(by cases hl),rfl⟩
 |k+1,h=>by
  obtain⟨h1,h2⟩:=nR hp (k:=k) (by omega)
  have h3:=(gM (g:=mb) (p:=p) (k:=k)).1
  rw[dP]
  split
  ·refine⟨fun l hl=> ?_, ?_⟩
   ·rcases List.mem_append.1 hl with hl|hl
    ·exact h1 l hl
    ·simp only[aP]at hl;subst hl
     exact sz (mg (permB_iff.1 hp).2)
   ·simp only[cQ]at h2 ⊢
    rw[aT,List.sum_append,h2]
    simp[mb,jM,fW h];omega
  ·exact⟨h1,h2⟩
theorem kB {p:List Int} (hp:bD p=true):(dP mb p p.length).1=bu p:=by rw[bu,B9 hp (am _)]
theorem ji {p:List Int} (hp:al p=true):(∀l∈bu p,bD l=true)∧cQ (bu p)≤8∧(bu p).length≤8∧(∀l∈bu p,al l=true∧l.length≤8∧∀x∈l,0≤x∧x≤8):=by
 obtain⟨hl,hq⟩:=aK hp
 obtain⟨h1,h2⟩:=nR hq (am _)
 have h3:=gM (g:=mb) (p:=p) (k:=p.length)
 rw[kB hq]at h1 h2 h3
 refine⟨h1,by omega,by omega,fun l hx=> ?_⟩
 have h4:=vu hx
 have h5:al l=true:=by simp only[al,h1 l hx,Bool.and_true,decide_eq_true_eq];omega
 exact⟨h5,by omega,fZ h5⟩
theorem dz {p:List Int} (hp:al p=true):al (cU p)=true:=by
 obtain⟨hl,hq⟩:=aK hp
 simp only[al,s8 hq,gc,hl,decide_true,Bool.and_self]
def dD (p:List Int):List (List Int):=(bu (cU p)).map cU
theorem om {m0:Bool} (p:List Int) (hp:al p=true):Fun Tryz.prog 168 [(.sl (.lent m0) (List.map (PV.int .i64) (p)))] [(.sl .own (List.map (bW false) (dD p)))]:=by
 refine fO bA [2] Tryz.func168 ?_
 have cE1:= @jq;have cE2:= @dR
 have hl:=(aK hp).1
 have hq:=permB_iff.1 (aK hp).2
 have hb:=fZ hp
 have b1:(cU p).length≤8:=by rw[gc];exact hl
 have b2:=fZ (dz hp)
 have b3:=ji (dz hp)
 have b4:∀x∈p,0≤x∧x≤1048576:=fun x hx=>by have:=hb x hx;omega
 have b5:(dP lX (cU p) (cU p).length).1=bu (cU p):=rfl
 refine aQ @b5 ?_
 all_goals try(apply aq;repeat' first|exact ao|apply aa|(apply au;intro zb hc)|(apply ar;intro zb)|intro j')<;>try apply aw
 refine az (fun ms1 S1=>∃(j:Nat),OwnL (S1.e 3) S1.h S1.n (bW false) ((qF (bu (cU p)) j).length) (qF (bu (cU p)) j)∧S1.e 9=S1.e 3∧S1.e 10=.p (.int .i64 ((bu (cU p)).length))∧S1.e 11=.p (.int .i64 (j))∧(j≤(bu (cU p)).length)∧ms1=(bu (cU p)).length - j) ((fun(j:Nat)=>(bu (cU p)).length - j) (0)) ?_ ⟨0,dC trivial ?_⟩
 all_goals try(apply aq;repeat' first|exact ao|apply aa|(apply au;intro zb hc)|(apply ar;intro zb)|intro j')<;>try apply aw
 rintro ms1 S1 ⟨j,o1_3,h1_9,h1_10,h1_11,c1_0,hm1⟩
 obtain⟨i1_3,h1_3,b1_3,l1_3⟩:=o1_3.out
 have ni1_3:=bi (x:=i1_3) (n:=S1.n)
 have fL1:=(aa h1_9 (aa h1_10 (aa h1_11 (aa h1_3 (aa b1_3 ni1_3)))))
 have b6:=qE (L:=bu (cU p)) (j:=j)
 have b7:j<(bu (cU p)).length→(qF (bu (cU p)) j).getD j []=(bu (cU p)).getD j []:=fun h=>GL h
 have b8:j<(bu (cU p)).length→((bu (cU p)).getD j []).length≤8∧∀x∈(bu (cU p)).getD j [],0≤x∧x≤1048576:=fun h=>⟨(b3.2.2.2 _ (aF h)).2.1,fun x hx=>by have:=(b3.2.2.2 _ (aF h)).2.2 x hx;omega⟩
 by_cases hj:j<(bu (cU p)).length
 ·have b9:=b8 hj
  have b10:=b7 hj
  rw[←b10]at b9
  have b11:=b9.1
  have b12:=b9.2
  refine aQ fL1 ?_
  all_goals try(apply aq;repeat' first|exact ao|apply aa|(apply au;intro zb hc)|(apply ar;intro zb)|intro j')<;>try apply aw
  focus
   refine ay ((fun(j:Nat)=>(bu (cU p)).length - j) (j+1)) (dC fL1 ?_) ⟨j+1,dC fL1 ?_⟩
   all_goals try(apply aq;repeat' first|exact ao|apply aa|(apply au;intro zb hc)|(apply ar;intro zb)|intro j')<;>try apply aw
  all_goals(first|(rw[b10,C7 hj])|(rw[qE,qE]))
 ·refine aQ fL1 ?_
  all_goals try(apply aq;repeat' first|exact ao|apply aa|(apply au;intro zb hc)|(apply ar;intro zb)|intro j')<;>try apply aw
  obtain rfl:j=(bu (cU p)).length:=by omega
  simp[qF,dD]
theorem rW {m0 m1:Bool} (a:List Int) (b:List Int) (k:Bool) (h1:a.length≤1000) (h2:b.length≤1000) (h3:∀x∈a, -1000000≤x∧x≤1000000) (h4:∀x∈b, -1000000≤x∧x≤1000000):Fun Tryz.prog 212 [(.sl (.lent m0) (List.map (PV.int .i64) (a))),(.sl (.lent m1) (List.map (PV.int .i64) (b))),(.bool (k))] [(.sl .own (List.map (PV.int .i64) (nL a b k)))]:=by
 refine fO bA [6] Tryz.func212 ?_
 have cE1:= @eC;have cD1:=iE [false,false,false,false,false,false,true,false,false,false,false,true,true,false] [(0,6),(1,6),(2,6),(3,6),(4,6),(6,7),(6,8),(0,11)];have cD2:=iE [false,false,false,false,false,false,false,true,false,false,false,false,true,true,false] [(0,7),(1,7),(2,7),(3,7),(4,7),(7,8),(7,9),(0,12)]
 have e1:dM k=if k then 1 else 0:=rfl
 refine aQ trivial ?_
 all_goals try(apply aq;repeat' first|exact ao|apply aa|(apply au;intro zb hc)|(apply ar;intro zb)|intro j')<;>try apply aw
 refine az (fun ms1 S1=>∃(i:Nat),S1.e 0=.p (.sl (.lent m0) (List.map (PV.int .i64) (a)))∧S1.e 1=.p (.sl (.lent m1) (List.map (PV.int .i64) (b)))∧S1.e 2=.p (.bool (k))∧S1.e 8=.p (.int .i64 (i))∧OwnL (S1.e 7) S1.h S1.n (PV.int .i64) (((a.take i).map (fun x=>x+dM k*b.length)).length) ((a.take i).map (fun x=>x+dM k*b.length))∧(i≤a.length)∧ms1=a.length - i) ((fun(i:Nat)=>a.length - i) (0)) ?_ ⟨0,dI trivial ?_⟩
 all_goals try(apply aq;repeat' first|exact ao|apply aa|(apply au;intro zb hc)|(apply ar;intro zb)|intro j')<;>try apply aw
 rintro ms1 S1 ⟨i,h1_0,h1_1,h1_2,h1_8,o1_7,c1_0,hm1⟩
 obtain⟨i1_7,h1_7,b1_7,l1_7⟩:=o1_7.out
 have ni1_7:=bi (x:=i1_7) (n:=S1.n)
 have fL1:=(aa h1_0 (aa h1_1 (aa h1_2 (aa h1_8 (aa h1_7 (aa b1_7 ni1_7))))))
 have b1:i<a.length→ -1000000≤a.getD i 0∧a.getD i 0≤1000000:=fun h=>h3 _ (aF h)
 have b2:0≤dM k*(b.length:Int)∧dM k*(b.length:Int)≤1000:=by cases k<;>simp[dM]<;>omega
 refine dE fL1 ?_
 all_goals try(apply aq;repeat' first|exact ao|apply aa|(apply au;intro zb hc)|(apply ar;intro zb)|intro j')<;>try apply aw
 all_goals try have b3:=b1 (by omega)
 all_goals try exact iF
 ·focus
   refine ay ((fun(i:Nat)=>a.length - i) (i+1)) (dC fL1 ?_) ⟨i+1,dC fL1 ?_⟩
   all_goals try(apply aq;repeat' first|exact ao|apply aa|(apply au;intro zb hc)|(apply ar;intro zb)|intro j')<;>try apply aw
  all_goals(rw[aX (d:=0) (by omega),aT];rfl)
 ·refine az (fun ms2 S2=>∃(j:Nat),S2.e 0=.p (.sl (.lent m0) (List.map (PV.int .i64) (a)))∧S2.e 1=.p (.sl (.lent m1) (List.map (PV.int .i64) (b)))∧S2.e 2=.p (.bool (k))∧S2.e 9=.p (.int .i64 (j))∧OwnL (S2.e 7) S2.h S2.n (PV.int .i64) ((a.map (fun x=>x+dM k*b.length)++(b.take j).map (fun x=>x+dM (!k)*a.length)).length) (a.map (fun x=>x+dM k*b.length)++(b.take j).map (fun x=>x+dM (!k)*a.length))∧(j≤b.length)∧S1.n≤S2.n∧ms2=b.length - j) ((fun(j:Nat)=>b.length - j) (0)) ?_ ⟨0,dI fL1 ?_⟩
  all_goals try(apply aq;repeat' first|exact ao|apply aa|(apply au;intro zb hc)|(apply ar;intro zb)|intro j')<;>try apply aw
  rintro ms2 S2 ⟨j,h2_0,h2_1,h2_2,h2_9,o2_7,c2_0,u2_0,hm2⟩
  obtain⟨i2_7,h2_7,b2_7,l2_7⟩:=o2_7.out
  have ni2_7:=bi (x:=i2_7) (n:=S2.n)
  have fL2:=(aa h2_0 (aa h2_1 (aa h2_2 (aa h2_9 (aa h2_7 (aa b2_7 ni2_7))))))
  have b4:j<b.length→ -1000000≤b.getD j 0∧b.getD j 0≤1000000:=fun h=>h4 _ (aF h)
  have b5:0≤dM (!k)*(a.length:Int)∧dM (!k)*(a.length:Int)≤1000:=by cases k<;>simp[dM]<;>omega
  refine dE fL2 ?_
  all_goals try(apply aq;repeat' first|exact ao|apply aa|(apply au;intro zb hc)|(apply ar;intro zb)|intro j')<;>try apply aw
  all_goals try have b6:=b4 (by omega)
  all_goals try exact iF
  ·focus
    refine ay ((fun(j:Nat)=>b.length - j) (j+1)) (dC fL2 ?_) ⟨j+1,dC fL2 ?_⟩
    all_goals try(apply aq;repeat' first|exact ao|apply aa|(apply au;intro zb hc)|(apply ar;intro zb)|intro j')<;>try apply aw
   all_goals(rw[aX (d:=0) (by omega),aT];try rfl)
  ·rw[ah (by omega)]
   cases k<;>simp[nL,dM]
  all_goals(rw[ah (by omega)];try simp)
theorem tD {m0 m1:Bool} (a:List Int) (b:List Int) (h1:a.length≤1048576) (h2:b.length≤1048576):Fun Tryz.prog 211 [(.sl (.lent m0) (List.map (PV.int .i64) (a))),(.sl (.lent m1) (List.map (PV.int .i64) (b)))] [(.bool ((al a&&al b&&decide (a.length+b.length≤8))))]:=by
 refine fO bA [4] Tryz.func211 ?_
 have cE1:= @aD
 refine aQ trivial ?_
 all_goals try(apply aq;repeat' first|exact ao|apply aa|(apply au;intro zb hc)|(apply ar;intro zb)|intro j')<;>try apply aw
 all_goals(congr 1;exact propext (by omega))
theorem UI {L:List (List Int)} {k:Bool} (hL:∀l∈L,bD l=true) (h8:cQ L≤8) {j:Nat} (h:j<L.length):al (ew (L.take j) k)=true∧al (L.getD j [])=true∧(ew (L.take j) k).length+(L.getD j []).length≤8:=by
 have h1:=ly (k:=k) (show j≤L.length by omega)
 have h2:=iB h
 have h3:=fD (L:=L) (j:=j+1)
 have h4:=mn (k:=k) hL (show j≤L.length by omega)
 have h5:=hL _ (aF (d:=[]) h)
 refine⟨?_, ?_,by omega⟩
 ·simp only[al,h4,Bool.and_true,decide_eq_true_eq];omega
 ·simp only[al,h5,Bool.and_true,decide_eq_true_eq];omega
theorem nQ {e0 m0:Bool} (L:List (List Int)) (k:Bool) (hL:L.length≤8) (hp:∀l∈L,bD l=true) (h8:cQ L≤8):Fun Tryz.prog 187 [(.sl (.lent m0) (List.map (bW e0) (L))),(.bool (k))] [(.sl .own (List.map (PV.int .i64) (ew L k))),(.bool (true))]:=by
 refine fO bA [4,5] Tryz.func187 ?_
 have cE1:= @tD;have cE2:= @rW
 refine aQ trivial ?_
 all_goals try(apply aq;repeat' first|exact ao|apply aa|(apply au;intro zb hc)|(apply ar;intro zb)|intro j')<;>try apply aw
 refine az (fun ms1 S1=>∃(j:Nat),S1.e 0=.p (.sl (.lent m0) (List.map (bW e0) (L)))∧S1.e 1=.p (.bool (k))∧S1.e 7=.p (.int .i64 (j))∧OwnL (S1.e 6) S1.h S1.n (PV.int .i64) ((ew (L.take j) k).length) (ew (L.take j) k)∧(j≤L.length)∧ms1=L.length - j) ((fun(j:Nat)=>L.length - j) (0)) ?_ ⟨0,dC trivial ?_⟩
 all_goals try(apply aq;repeat' first|exact ao|apply aa|(apply au;intro zb hc)|(apply ar;intro zb)|intro j')<;>try apply aw
 rintro ms1 S1 ⟨j,h1_0,h1_1,h1_7,o1_6,c1_0,hm1⟩
 obtain⟨i1_6,h1_6,b1_6,l1_6⟩:=o1_6.out
 have ni1_6:=bi (x:=i1_6) (n:=S1.n)
 have fL1:=(aa h1_0 (aa h1_1 (aa h1_7 (aa h1_6 (aa b1_6 ni1_6)))))
 by_cases hj:j<L.length
 ·obtain⟨b1,b2,b3⟩:=UI (k:=k) hp h8 hj
  have b4:=(aK b1).1
  have b5:=(aK b2).1
  have b6:∀x∈ew (L.take j) k, -1000000≤x∧x≤1000000:=fun x hx=>by have:=fZ b1 x hx;omega
  have b7:∀x∈L.getD j [], -1000000≤x∧x≤1000000:=fun x hx=>by have:=fZ b2 x hx;omega
  have b8:decide ((ew (L.take j) k).length+(L.getD j []).length≤8)=true:=decide_eq_true b3
  refine aQ (aa fL1 (aa @b1 (aa @b2 @b8))) ?_
  all_goals try(apply aq;repeat' first|exact ao|apply aa|(apply au;intro zb hc)|(apply ar;intro zb)|intro j')<;>try apply aw
  ·focus
    refine ay ((fun(j:Nat)=>L.length - j) (j+1)) (dC fL1 ?_) ⟨j+1,dC fL1 ?_⟩
    all_goals try(apply aq;repeat' first|exact ao|apply aa|(apply au;intro zb hc)|(apply ar;intro zb)|intro j')<;>try apply aw
   all_goals(rw[iO (by omega)])
 ·refine aQ fL1 ?_
  all_goals try(apply aq;repeat' first|exact ao|apply aa|(apply au;intro zb hc)|(apply ar;intro zb)|intro j')<;>try apply aw
  rw[ah (by omega)]
theorem nP {m0:Bool} (p:List Int) (hp:al p=true):Fun Tryz.prog 161 [(.sl (.lent m0) (List.map (PV.int .i64) (p)))] [(.sl .own (List.map (bW false) (dD p)))]:=by
 refine fO bA [2] Tryz.func161 ?_
 have cE1:= @aD;have cE2:= @gZ;have cE3:= @dO
 have hl:=(aK hp).1
 have hq:=(aK hp).2
 have hb:=fZ hp
 have b1:=dz hp
 have b3:=ji (dz hp)
 have b4:∀x∈p,0≤x∧x≤1048576:=fun x hx=>by have:=hb x hx;omega
 have b5:(dP mb (cU p) (cU p).length).1=bu (cU p):=kB (aK b1).2
 refine aQ (aa @b5 @hp) ?_
 all_goals try(apply aq;repeat' first|exact ao|apply aa|(apply au;intro zb hc)|(apply ar;intro zb)|intro j')<;>try apply aw
 refine az (fun ms1 S1=>∃(j:Nat),OwnL (S1.e 4) S1.h S1.n (bW false) ((bu (cU p)).length) (bu (cU p))∧S1.e 5=.p (.int .i64 (j))∧OwnL (S1.e 3) S1.h S1.n (bW false) ((((bu (cU p)).take j).map cU).length) (((bu (cU p)).take j).map cU)∧(j≤(bu (cU p)).length)∧NId (S1.e 3) (S1.e 4)∧ms1=(bu (cU p)).length - j) ((fun(j:Nat)=>(bu (cU p)).length - j) (0)) ?_ ⟨0,dC trivial ?_⟩
 all_goals try(apply aq;repeat' first|exact ao|apply aa|(apply au;intro zb hc)|(apply ar;intro zb)|intro j')<;>try apply aw
 rintro ms1 S1 ⟨j,o1_4,h1_5,o1_3,c1_0,u1_0,hm1⟩
 obtain⟨i1_4,h1_4,b1_4,l1_4⟩:=o1_4.out
 obtain⟨i1_3,h1_3,b1_3,l1_3⟩:=o1_3.out
 have k1_0:=(u1_0).out h1_3 h1_4
 have ni1_4:=bi (x:=i1_4) (n:=S1.n)
 have ni1_3:=bi (x:=i1_3) (n:=S1.n)
 have di1_4i1_3:=ds (x:=i1_4) (y:=i1_3)
 have fL1:=(aa h1_5 (aa h1_4 (aa b1_4 (aa h1_3 (aa b1_3 (aa ni1_4 (aa ni1_3 di1_4i1_3)))))))
 have b8:j<(bu (cU p)).length→((bu (cU p)).getD j []).length≤8∧∀x∈(bu (cU p)).getD j [],0≤x∧x≤1048576:=fun h=>⟨(b3.2.2.2 _ (aF h)).2.1,fun x hx=>by have:=(b3.2.2.2 _ (aF h)).2.2 x hx;omega⟩
 by_cases hj:j<(bu (cU p)).length
 ·have b9:=b8 hj
  have b11:=b9.1
  have b12:=b9.2
  refine aQ fL1 ?_
  all_goals try(apply aq;repeat' first|exact ao|apply aa|(apply au;intro zb hc)|(apply ar;intro zb)|intro j')<;>try apply aw
  focus
   refine ay ((fun(j:Nat)=>(bu (cU p)).length - j) (j+1)) (dC fL1 ?_) ⟨j+1,dC fL1 ?_⟩
   all_goals try(apply aq;repeat' first|exact ao|apply aa|(apply au;intro zb hc)|(apply ar;intro zb)|intro j')<;>try apply aw
  all_goals(rw[aX (d:=[]) hj,aT];rfl)
 ·refine aQ fL1 ?_
  all_goals try(apply aq;repeat' first|exact ao|apply aa|(apply au;intro zb hc)|(apply ar;intro zb)|intro j')<;>try apply aw
  obtain rfl:j=(bu (cU p)).length:=by omega
  simp[dD]
theorem tC {m0:Bool} (L:List (List Int)) (k:Bool) (h0:1≤L.length) (hL:L.length≤8) (hp:∀l∈L,bD l=true) (h8:cQ L≤8):Fun Tryz.prog 160 [(.sl (.lent m0) (List.map (bW false) (L))),(.bool (k))] [(.agg [(.sl (.lent false) (List.map (PV.int .i64) ((if k then[2,1]else[1,2])))),(.sl (.lent false) (List.map (bW false) ([L.getD 0 [],ew (L.drop 1) k])))])]:=by
 refine Fun.ofR (sg:=bA) (rs:=[.cell 4 48]) mo Tryz.func160 rfl rfl rfl rfl (by kernel_rfl) (by simp only[go_sem]) rfl ?_
 have cE1:= @nQ
 have b1:(L.drop 1).length≤8:=by simp;omega
 have b2:∀l∈L.drop 1,bD l=true:=fun l hl=>hp l (List.mem_of_mem_drop hl)
 have b3:cQ (L.drop 1)≤8:=Nat.le_trans As h8
 have b4:=vu (aF (d:=[]) (show 0<L.length by omega))
 refine aQ trivial ?_
 all_goals try(apply aq;repeat' first|exact ao|apply aa|(apply au;intro zb hc)|(apply ar;intro zb)|intro j')<;>try apply aw
theorem Lt:d7 (Value.pointer none)=.any:=_root_.id rfl
theorem OA {b:List UInt8} {s:Cu}:(cF b s)[0]? =some (.sl (.lent false) (b.map kA)):=_root_.id rfl
theorem Oz {b:List UInt8} {s:Cu}:(cF b s)[1]? =some (.int .i64 s.i):=_root_.id rfl
theorem Oy {b:List UInt8} {s:Cu}:(cF b s)[2]? =some (.int .i64 s.h):=_root_.id rfl
theorem IE {b:List UInt8} {s:Cu}:(cF b s).length=3:=_root_.id rfl
theorem Ox {b:List UInt8} {s:Cu} {n:Nat}:(cF b s).set 1 (.int .i64 (n:Int))=cF b ⟨n,s.h⟩:=_root_.id rfl
theorem Ow {b:List UInt8} {s:Cu} {n:Int}:(cF b s).set 2 (.int .i64 n)=cF b ⟨s.i,n⟩:=_root_.id rfl
attribute [go_sem] Lt JJ OA Oz Oy IE Ox Ow
def o5 (b:List UInt8):Nat→Int
 |0=>26583+(b.length:Int)
 |k+1=>((((o5 b k*131+((b.getD k 0).toNat:Int))+7).toNat&&& (1073741823:Int).toNat:Nat):Int)
theorem LK {b:List UInt8} (hb:b.length≤1048576):∀k,0≤o5 b k∧o5 b k≤1073741823
 |0=>by rw[o5];omega
 |k+1=>by
  have:=Nat.and_le_right (n:=((o5 b k*131+((b.getD k 0).toNat:Int))+7).toNat) (m:=(1073741823:Int).toNat)
  rw[o5]
  omega
theorem Ql (x:UInt8):x.toNat≤255:=by have:=x.toNat_lt;omega
theorem ii (b:List UInt8) (hb:b.length≤1048576):Fun Tryz.prog 53 [(.sl (.lent false) (List.map kA (b)))] [(.bx (cF b ⟨0,o5 b (min b.length 4000)⟩))]:=by
 refine fO bA [2] Tryz.func53 ?_
 have u5:(Tryz.prog.underlying 5).isSome=true:=by rw[Tryz.underlying5];rfl
 refine aQ trivial ?_
 all_goals try(apply aq;repeat' first|exact ao|apply aa|(apply au;intro zb hc)|(apply ar;intro zb)|intro j')<;>try apply aw
 refine az (fun ms1 S1=>∃(k:Nat),S1.e 0=.p (.sl (.lent false) (List.map kA (b)))∧S1.e 3=.p (.int .i64 (o5 b k))∧S1.e 4=.p (.int .i64 (k))∧(k≤b.length)∧(k≤4000)∧ms1=b.length - k) ((fun(k:Nat)=>b.length - k) (0)) ?_ ⟨0,dC trivial ?_⟩
 all_goals try(apply aq;repeat' first|exact ao|apply aa|(apply au;intro zb hc)|(apply ar;intro zb)|intro j')<;>try apply aw
 rintro ms1 S1 ⟨k,h1_0,h1_3,h1_4,c1_0,c1_1,hm1⟩
 have fL1:=(aa h1_0 (aa h1_3 h1_4))
 ·have q1:=LK hb k
  have q2:=Ql (b.getD k 0)
  refine aQ (aa fL1 @u5) ?_
  all_goals try(apply aq;repeat' first|exact ao|apply aa|(apply au;intro zb hc)|(apply ar;intro zb)|intro j')<;>try apply aw
  ·focus
    refine ay ((fun(k:Nat)=>b.length - k) (k+1)) (dC fL1 ?_) ⟨k+1,dC fL1 ?_⟩
    all_goals try(apply aq;repeat' first|exact ao|apply aa|(apply au;intro zb hc)|(apply ar;intro zb)|intro j')<;>try apply aw
  ·rw[show min b.length 4000=k by omega];rfl
  ·rw[show min b.length 4000=k by omega];rfl
def Po (h:Int):Int:=IntKind.i64.wrap (IntKind.i64.wrap (h*6364136223846793005)+1442695040888963407)
def VE (h:Int):Int:=rL .i64 (zC .i64 ((Po h).fdiv (2^33)) ((Po h).fdiv (2^45))) 255
def EC (b:List UInt8) (s:Cu):Int:=if s.i<b.length then rL .i64 (IntKind.i64.wrap (VE s.h+((b.getD s.i 0).toNat:Int))) 255 else VE s.h
def oQ (b:List UInt8) (s:Cu):Cu:=if s.i<b.length then⟨s.i+1,Po s.h⟩else⟨s.i,Po s.h⟩
theorem Bh {n:Int} (h0: -9223372036854775808≤n) (h1:n≤9223372036854775807):IntKind.i64.wrap n=n:=by
 unfold IntKind.wrap
 simp only[IntKind.bits,IntKind.signed,Bool.true_and]
 split
 ·rename_i h;simp at h;omega
 ·rename_i h;simp at h;omega
theorem EN {x:Int}:0≤rL .i64 x 255∧rL .i64 x 255≤255:=by
 unfold rL
 generalize BitVec.ofInt IntKind.i64.bits x=y
 have h:(y&&& BitVec.ofInt IntKind.i64.bits 255).toNat≤255:=by
  rw[BitVec.toNat_and]
  exact Nat.and_le_right
 rw[Bh (by omega) (by omega)];omega
theorem byX_r {b:List UInt8} {s:Cu}:0≤EC b s∧EC b s≤255:=by
 unfold EC VE;split<;>exact EN
def uT:FuncId→List Bool:=fun f=>if f=4294967296 then[true]else[]
theorem Fz {f:FuncId}:uT f=if f=4294967296 then[true]else[]:=_root_.id rfl
theorem Bs:gk uT=true∧gG uT=false∧gF uT=false∧gE uT=false∧gH uT=false:=⟨rfl,rfl,rfl,rfl,rfl⟩
attribute [go_sem] Fz Bs
theorem jv (b:List UInt8) (s:Cu) (hb:b.length≤1048576):CallT Tryz.prog false 152 [.mu true (cF b s)] [some (cF b (oQ b s))] [(.int .i64 (EC b s))]:=by
 have u5:(Tryz.prog.underlying 5).isSome=true:=by rw[Tryz.underlying5];rfl
 by_cases hi:s.i<b.length
 ·have e1:IntKind.i64.wrap ((s.i:Int)+1)=((s.i+1:Nat):Int):=by rw[Bh (by omega) (by omega)];omega
  have e2:EC b s=rL .i64 (IntKind.i64.wrap (VE s.h+((b.getD s.i 0).toNat:Int))) 255:=if_pos hi
  have e3:oQ b s=⟨s.i+1,Po s.h⟩:=if_pos hi
  have hu:=Ql (b.getD s.i 0)
  rw[e2,e3]
  refine fX uT [2] Tryz.func152 ?_
  have cD1:=iE [false,false,false,false,false,false,false,false,false,false,false,true,false,false,false] [(0,11)]
  refine aQ (aa @u5 @e1) ?_
  all_goals try(apply aq;repeat' first|exact ao|apply aa|(apply au;intro zb hc)|(apply ar;intro zb)|intro j')<;>try apply aw
  all_goals rfl
 ·have e2:EC b s=VE s.h:=if_neg hi
  have e3:oQ b s=⟨s.i,Po s.h⟩:=if_neg hi
  rw[e2,e3]
  refine fX uT [2] Tryz.func152 ?_
  have cD1:=iE [false,false,false,false,false,false,false,false,false,false,false,true,false,false,false] [(0,11)]
  refine aQ @u5 ?_
  all_goals try(apply aq;repeat' first|exact ao|apply aa|(apply au;intro zb hc)|(apply ar;intro zb)|intro j')<;>try apply aw
  all_goals rfl
def fV:FuncId→List Bool:=fun f=>if f=152 then[true]else if f=110 then[true]else if f=108 then[true]else if f=149 then[true]else if f=150 then[true]else if f=111 then[true]else if f=112 then[true]else if f=55 then[true]else if f=54 then[true]else if f=109 then[true]else if f=52 then[true]else[]
theorem Fx {f:FuncId}:fV f=if f=152 then[true]else if f=110 then[true]else if f=108 then[true]else if f=149 then[true]else if f=150 then[true]else if f=111 then[true]else if f=112 then[true]else if f=55 then[true]else if f=54 then[true]else if f=109 then[true]else if f=52 then[true]else[]:=_root_.id rfl
theorem Bq:gk fV=false∧gG fV=false∧gF fV=false∧gE fV=false∧gH fV=false:=⟨rfl,rfl,rfl,rfl,rfl⟩
attribute [go_sem] Fx Bq
def V7 (b:List UInt8) (s:Cu):Int:=EC b s*16777216+EC b (oQ b s)*65536+EC b (oQ b (oQ b s))*256+EC b (oQ b (oQ b (oQ b s)))
theorem b4X_r {b:List UInt8} {s:Cu}:0≤V7 b s∧V7 b s≤4294967295:=by
 have q1:=byX_r (b:=b) (s:=s)
 have q2:=byX_r (b:=b) (s:=oQ b s)
 have q3:=byX_r (b:=b) (s:=oQ b (oQ b s))
 have q4:=byX_r (b:=b) (s:=oQ b (oQ b (oQ b s)))
 unfold V7;omega
def kk (b:List UInt8) (s:Cu) (n:Int):Int:=if n≤0 then 0 else if n≤256 then(EC b s).tmod n else(V7 b s).tmod n
def gi (b:List UInt8) (s:Cu) (n:Int):Cu:=if n≤0 then s else if n≤256 then oQ b s else oQ b (oQ b (oQ b (oQ b s)))
theorem iV {b:List UInt8} {s:Cu} {n:Int}:0≤kk b s n∧(0<n→kk b s n<n)∧(n≤0→kk b s n=0):=by
 unfold kk
 by_cases h0:n≤0
 ·rw[if_pos h0];omega
 ·rw[if_neg h0]
  refine⟨?_,fun h=> ?_,fun h=>absurd h h0⟩
  ·split
   ·exact Int.tmod_nonneg _ byX_r.1
   ·exact Int.tmod_nonneg _ b4X_r.1
  ·split<;>exact Int.tmod_lt_of_pos _ h
theorem bf (b:List UInt8) (s:Cu) (n:Int) (hb:b.length≤1048576) (hn:n≤4294967296):CallT Tryz.prog false 110 [.mu true (cF b s),.pv (.int .i64 (n))] [some (cF b (gi b s n)),none] [(.int .i64 (kk b s n))]:=by
 by_cases h0:n≤0
 ·rw[gi,kk,if_pos h0,if_pos h0]
  refine fX fV [4] Tryz.func110 ?_
  have cM1:= @jv
  refine aQ trivial ?_
  all_goals try(apply aq;repeat' first|exact ao|apply aa|(apply au;intro zb hc)|(apply ar;intro zb)|intro j')<;>try apply aw
 ·by_cases h1:n≤256
  ·have q:=byX_r (b:=b) (s:=s)
   rw[gi,kk,if_neg h0,if_neg h0,if_pos h1,if_pos h1]
   refine fX fV [4] Tryz.func110 ?_
   have cM1:= @jv
   refine aQ trivial ?_
   all_goals try(apply aq;repeat' first|exact ao|apply aa|(apply au;intro zb hc)|(apply ar;intro zb)|intro j')<;>try apply aw
  ·have q1:=byX_r (b:=b) (s:=s)
   have q2:=byX_r (b:=b) (s:=oQ b s)
   have q3:=byX_r (b:=b) (s:=oQ b (oQ b s))
   have q4:=byX_r (b:=b) (s:=oQ b (oQ b (oQ b s)))
   rw[gi,kk,if_neg h0,if_neg h0,if_neg h1,if_neg h1,V7]
   refine fX fV [4] Tryz.func110 ?_
   have cM1:= @jv
   refine aQ trivial ?_
   all_goals try(apply aq;repeat' first|exact ao|apply aa|(apply au;intro zb hc)|(apply ar;intro zb)|intro j')<;>try apply aw
theorem bw (b:List UInt8) (s:Cu) (n:Int) (hb:b.length≤1048576) (hn:n≤4294967296):CallT Tryz.prog false 108 [.mu true (cF b s),.pv (.int .i64 (n))] [some (cF b (gi b s n)),none] [(.bool (decide (kk b s n=0)))]:=by
 refine fX fV [4] Tryz.func108 ?_
 have cM1:= @bf
 refine aQ trivial ?_
 all_goals try(apply aq;repeat' first|exact ao|apply aa|(apply au;intro zb hc)|(apply ar;intro zb)|intro j')<;>try apply aw
theorem nN {m0:Bool} (b:List UInt8) (s:Cu) (l:List Int) (hb:b.length≤1048576) (hl:l.length≤256) (h0:l≠[]):∃s' x,CallT Tryz.prog false 150 [.mu true (cF b s),.pv (.sl (.lent m0) (List.map (PV.int .i64) l))] [some (cF b s'),none] [.int .i64 x]∧x∈l:=by
 have hp:=List.length_pos_iff.2 h0
 have q:=iV (b:=b) (s:=s) (n:=l.length)
 refine⟨gi b s l.length,l.getD (kk b s l.length).toNat 0, ?_,aF (by omega)⟩
 refine fX fV [4] Tryz.func150 ?_
 have cM1:= @bf
 refine aQ trivial ?_
 all_goals try(apply aq;repeat' first|exact ao|apply aa|(apply au;intro zb hc)|(apply ar;intro zb)|intro j')<;>try apply aw
theorem rY {m0:Bool} (b:List UInt8) (s:Cu) (l:List (List UInt8)) (hb:b.length≤1048576) (hl:l.length≤256) (h0:l≠[]):∃s' x,CallT Tryz.prog false 149 [.mu true (cF b s),.pv (.sl (.lent m0) (List.map PV.str l))] [some (cF b s'),none] [.str x]∧x∈l:=by
 have hp:=List.length_pos_iff.2 h0
 have q:=iV (b:=b) (s:=s) (n:=l.length)
 refine⟨gi b s l.length,l.getD (kk b s l.length).toNat [], ?_,aF (by omega)⟩
 refine fX fV [4] Tryz.func149 ?_
 have cM1:= @bf
 refine aQ trivial ?_
 all_goals try(apply aq;repeat' first|exact ao|apply aa|(apply au;intro zb hc)|(apply ar;intro zb)|intro j')<;>try apply aw
theorem so {L D:List Int} {p:Int} {j:Nat} (h:j≤L.length):List.take (j+1) (L.take j++p::D)=L.take j++[p]:=by
 rw[List.take_append,ah (by simp;omega),aV,Nat.min_eq_left h,Nat.add_sub_cancel_left];rfl
def jF (b:List UInt8) (s:Cu):Nat→List Int×Cu
 |0=>([],s)
 |k+1=>
  let p:=jF b s k
  ((p.1.take (kk b p.2 ((p.1.length:Int)+1)).toNat++[(k:Int)+1])++p.1.drop (kk b p.2 ((p.1.length:Int)+1)).toNat,gi b p.2 ((p.1.length:Int)+1))
theorem lA {b:List UInt8} {s:Cu}:∀{k:Nat},(jF b s k).1.length=k
 |0=>rfl
 |k+1=>by
  have h:=lA (b:=b) (s:=s) (k:=k)
  have q:=iV (b:=b) (s:=(jF b s k).2) (n:=((jF b s k).1.length:Int)+1)
  simp only[jF,ak,aV,List.length_drop,List.length_singleton]
  omega
theorem drL_mem {b:List UInt8} {s:Cu}:∀{k:Nat},(∀x∈(jF b s k).1,1≤x∧x≤k)∧(jF b s k).1.Nodup
 |0=>by simp[jF]
 |k+1=>by
  obtain⟨h1,h2⟩:=drL_mem (b:=b) (s:=s) (k:=k)
  have hp:(jF b s (k+1)).1.Perm (((k:Int)+1)::(jF b s k).1):=by
   simp only[jF]
   rw[aB,List.singleton_append]
   refine List.perm_middle.trans ?_
   rw[List.take_append_drop]
  constructor
  ·intro x hx
   rcases List.mem_cons.1 (hp.subset hx)with q|q
   ·omega
   ·have:=h1 x q;omega
  ·refine(hp.nodup_iff).2 (List.nodup_cons.2 ⟨fun q=> ?_,h2⟩)
   have:=h1 _ q;omega
theorem wc {b:List UInt8} {s:Cu} {k:Nat}:bD (jF b s k).1=true:=permB_iff.2 ⟨by rw[lA];exact drL_mem.1,drL_mem.2⟩
theorem dT (b:List UInt8) (s:Cu) (n:Int) (hb:b.length≤1048576) (h0:0≤n) (hn:n≤1000):CallT Tryz.prog false 111 [.mu true (cF b s),.pv (.int .i64 (n))] [some (cF b (jF b s n.toNat).2),none] [(.sl .own (List.map (PV.int .i64) ((jF b s n.toNat).1)))]:=by
 refine fX fV [4] Tryz.func111 ?_
 have cM1:= @bf
 refine aQ trivial ?_
 all_goals try(apply aq;repeat' first|exact ao|apply aa|(apply au;intro zb hc)|(apply ar;intro zb)|intro j')<;>try apply aw
 refine az (fun ms1 S1=>∃(k:Nat),S1.e 0=.ptr 0 0∧S1.h 0=.live true (cF b (jF b s k).2)∧0<S1.n∧S1.e 1=.p (.int .i64 (n))∧OwnL (S1.e 5) S1.h S1.n (PV.int .i64) (((jF b s k).1).length) ((jF b s k).1)∧S1.e 6=.p (.int .i64 ((k+1)))∧((k:Int)≤n)∧NId (S1.e 5) (.ref 0 0 0)∧ms1=n.toNat - k) ((fun(k:Nat)=>n.toNat - k) (0)) ?_ ⟨0,dC trivial ?_⟩
 all_goals try(apply aq;repeat' first|exact ao|apply aa|(apply au;intro zb hc)|(apply ar;intro zb)|intro j')<;>try apply aw
 rintro ms1 S1 ⟨k,h1_0,b1_0,l1_0,h1_1,o1_5,h1_6,c1_0,u1_0,hm1⟩
 obtain⟨i1_5,h1_5,b1_5,l1_5⟩:=o1_5.out
 have k1_0:=(u1_0).out h1_5 rfl
 have ni1_5:=bi (x:=i1_5) (n:=S1.n)
 have n0:=bi (x:=0) (n:=S1.n)
 have di1_50:=ds (x:=i1_5) (y:=0)
 have fL1:=(aa h1_0 (aa b1_0 (aa h1_1 (aa h1_6 (aa h1_5 (aa b1_5 (aa ni1_5 (aa n0 di1_50))))))))
 ·have hl:=lA (b:=b) (s:=s) (k:=k)
  have hd:jF b s (k+1)=(((jF b s k).1.take (kk b (jF b s k).2 (((jF b s k).1.length:Int)+1)).toNat++[(k:Int)+1])++(jF b s k).1.drop (kk b (jF b s k).2 (((jF b s k).1.length:Int)+1)).toNat,gi b (jF b s k).2 (((jF b s k).1.length:Int)+1)):=rfl
  have q:=iV (b:=b) (s:=(jF b s k).2) (n:=((jF b s k).1.length:Int)+1)
  obtain⟨j,hj⟩:∃j:Nat,kk b (jF b s k).2 (((jF b s k).1.length:Int)+1)=j:=⟨_,(Int.toNat_of_nonneg q.1).symm⟩
  rw[hj,Int.toNat_natCast]at hd
  rw[hj]at q
  generalize hL:(jF b s k).1=L at*
  generalize hS:(jF b s k).2=S0 at*
  have e3:List.take (L.length - j) (List.drop j L)=L.drop j:=ah (by simp)
  by_cases g0:j=L.length
  ·subst g0
   have e4:List.drop L.length L=[]:=List.drop_length
   have e5:List.take L.length L=L:=List.take_length
   have f1:(L.length+1=(L++[(k:Int)+1]).length)=True:=eq_true (by simp)
   rw[e4,e5,aN]at hd
   refine aQ (aa fL1 (aa @hj (aa @e3 (aa @e4 (aa @e5 @f1))))) ?_
   all_goals try(apply aq;repeat' first|exact ao|apply aa|(apply au;intro zb hc)|(apply ar;intro zb)|intro j')<;>try apply aw
   ·focus
     refine ay ((fun(k:Nat)=>n.toNat - k) (k+1)) (dC fL1 ?_) ⟨k+1,dC fL1 ?_⟩
     all_goals try(apply aq;repeat' first|exact ao|apply aa|(apply au;intro zb hc)|(apply ar;intro zb)|intro j')<;>try apply aw
    all_goals rw[hd]
    all_goals first|(simp;done)|skip
   all_goals first|(obtain rfl:k=n.toNat:=(by omega);rw[hS];done)|(obtain rfl:k=n.toNat:=(by omega);rw[hL];done)|skip
  ·have f0:(j=L.length)=False:=eq_false g0
   have f1:(j+1≤L.length)=True:=eq_true (by omega)
   have f2:(List.take j L++((k:Int)+1)::List.drop (j+1) L).length=L.length:=by simp;omega
   have f3:(List.drop j L).length=L.length - j:=by simp
   by_cases g1:j+1=L.length
   ·have f4:(j+1=L.length)=True:=eq_true g1
    refine aQ (aa fL1 (aa @hj (aa @e3 (aa @f0 (aa @f1 (aa @f2 (aa @f3 @f4))))))) ?_
    all_goals try(apply aq;repeat' first|exact ao|apply aa|(apply au;intro zb hc)|(apply ar;intro zb)|intro j')<;>try apply aw
    ·focus
      refine ay ((fun(k:Nat)=>n.toNat - k) (k+1)) (dC fL1 ?_) ⟨k+1,dC fL1 ?_⟩
      all_goals try(apply aq;repeat' first|exact ao|apply aa|(apply au;intro zb hc)|(apply ar;intro zb)|intro j')<;>try apply aw
     all_goals rw[hd]
     all_goals first|(simp;done)|(simp;omega)|(rw[so (by omega)];done)|skip
    all_goals first|(obtain rfl:k=n.toNat:=(by omega);rw[hS];done)|(obtain rfl:k=n.toNat:=(by omega);rw[hL];done)|skip
   ·have f4:(j+1=L.length)=False:=eq_false g1
    have f5:(j+(1+(L.length - j))≤L.length)=False:=eq_false (by omega)
    refine aQ (aa fL1 (aa @hj (aa @e3 (aa @f0 (aa @f1 (aa @f2 (aa @f3 (aa @f4 @f5)))))))) ?_
    all_goals try(apply aq;repeat' first|exact ao|apply aa|(apply au;intro zb hc)|(apply ar;intro zb)|intro j')<;>try apply aw
    ·focus
      refine ay ((fun(k:Nat)=>n.toNat - k) (k+1)) (dC fL1 ?_) ⟨k+1,dC fL1 ?_⟩
      all_goals try(apply aq;repeat' first|exact ao|apply aa|(apply au;intro zb hc)|(apply ar;intro zb)|intro j')<;>try apply aw
     all_goals rw[hd]
     all_goals first|(simp;done)|(simp;omega)|(rw[so (by omega)];done)|skip
    all_goals first|(obtain rfl:k=n.toNat:=(by omega);rw[hS];done)|(obtain rfl:k=n.toNat:=(by omega);rw[hL];done)|skip
theorem mX (b:List UInt8) (s:Cu) (hb:b.length≤1048576):∃s' p,CallT Tryz.prog false 112 [.mu true (cF b s)] [some (cF b s')] [.sl .own (List.map (PV.int .i64) p)]∧al p=true:=by
 obtain⟨s1,n,c1,hn⟩:=nN (m0:=true) b s [0,1,2,3,4,5,5,6,6,7,8] hb (by decide) (by decide)
 have h8:0≤n∧n≤8:=by simp at hn;omega
 simp only[List.map_cons,List.map_nil]at c1
 refine⟨(jF b s1 n.toNat).2,(jF b s1 n.toNat).1, ?_, ?_⟩
 ·refine fX fV [2] Tryz.func112 ?_
  have cM1:= @dT
  have cM2:= @c1
  refine aQ trivial ?_
  all_goals try(apply aq;repeat' first|exact ao|apply aa|(apply au;intro zb hc)|(apply ar;intro zb)|intro j')<;>try apply aw
 ·simp only[al,wc,lA,Bool.and_true,decide_eq_true_eq];omega
structure SmL (p:List Int):Prop where
 len:p.length≤9
 rg:∀x∈p, -1≤x∧x≤10
theorem SmL.of {p:List Int} (h:al p=true):SmL p:=by
 obtain⟨h8,hp⟩:p.length≤8∧bD p=true:=by simpa[al]using h
 exact⟨by omega,fun x hx=>by have:=(permB_iff.1 hp).1 x hx;omega⟩
theorem ju (b:List UInt8) (s:Cu) (hb:b.length≤1048576):∃s' p,CallT Tryz.prog false 55 [.mu true (cF b s)] [some (cF b s')] [.sl .own (List.map (PV.int .i64) p)]∧SmL p:=by
 obtain⟨s1,p,c1,hp⟩:=mX b s hb
 have h8:p.length≤8:=by simp[al]at hp;exact hp.1
 have hs:=SmL.of hp
 obtain⟨x,hx⟩:∃x,kk b s1 14=x:=⟨_,rfl⟩
 by_cases h0:x=0
 ·have q:=iV (b:=b) (s:=gi b s1 14) (n:=12)
  refine⟨gi b (gi b s1 14) 12,p++[kk b (gi b s1 14) 12 - 1], ?_, ?_,fun y hy=> ?_⟩
  ·subst h0
   refine fX fV [2] Tryz.func55 ?_
   have cM1:= @bf
   have cM2:= @c1
   refine aQ @hx ?_
   all_goals try(apply aq;repeat' first|exact ao|apply aa|(apply au;intro zb hc)|(apply ar;intro zb)|intro j')<;>try apply aw
   all_goals exact ah (by simp)
  ·simp;omega
  ·rcases List.mem_append.1 hy with g|g
   ·exact hs.rg y g
   ·simp at g;omega
 ·by_cases h1:x=1
  ·by_cases hl:0<p.length
   ·have q:=iV (b:=b) (s:=gi b s1 14) (n:=11)
    refine⟨gi b (gi b s1 14) 11,p.set 0 (kk b (gi b s1 14) 11 - 1), ?_, ?_,fun y hy=> ?_⟩
    ·subst h1
     refine fX fV [2] Tryz.func55 ?_
     have cM1:= @bf
     have cM2:= @c1
     refine aQ @hx ?_
     all_goals try(apply aq;repeat' first|exact ao|apply aa|(apply au;intro zb hc)|(apply ar;intro zb)|intro j')<;>try apply aw
     all_goals exact ah (by simp)
    ·simp;omega
    ·rcases List.mem_or_eq_of_mem_set hy with g|g
     ·exact hs.rg y g
     ·omega
   ·refine⟨gi b s1 14,p, ?_,hs⟩
    subst h1
    refine fX fV [2] Tryz.func55 ?_
    have cM1:= @bf
    have cM2:= @c1
    refine aQ @hx ?_
    all_goals try(apply aq;repeat' first|exact ao|apply aa|(apply au;intro zb hc)|(apply ar;intro zb)|intro j')<;>try apply aw
    all_goals exact ah (by simp)
  ·have f0:(x=0)=False:=eq_false h0
   have f1:(x=1)=False:=eq_false h1
   refine⟨gi b s1 14,p, ?_,hs⟩
   refine fX fV [2] Tryz.func55 ?_
   have cM1:= @bf
   have cM2:= @c1
   refine aQ (aa @hx (aa @f0 @f1)) ?_
   all_goals try(apply aq;repeat' first|exact ao|apply aa|(apply au;intro zb hc)|(apply ar;intro zb)|intro j')<;>try apply aw
   all_goals exact ah (by simp)
theorem bT {m0 m1:Bool} (a b:List Int) (ha:a.length≤1099511627776) (hb:b.length≤1099511627776):Fun Tryz.prog 122 [(.sl (.lent m0) (List.map (PV.int .i64) (a))),(.sl (.lent m1) (List.map (PV.int .i64) (b)))] [(.bool (decide (a=b)))]:=by
 refine fO bA [4] Tryz.func122 ?_
 refine dE trivial ?_
 all_goals try(apply aq;repeat' first|exact ao|apply aa|(apply au;intro zb hc)|(apply ar;intro zb)|intro j')<;>try apply aw
 ·rw[decide_eq_false];intro e;subst e;exact hc rfl
 refine az (fun ms1 S1=>∃(k:Nat),S1.e 0=.p (.sl (.lent m0) (List.map (PV.int .i64) (a)))∧S1.e 1=.p (.sl (.lent m1) (List.map (PV.int .i64) (b)))∧S1.e 5=.p (.int .i64 (k))∧(k≤a.length)∧(a.take k=b.take k)∧ms1=a.length - k) ((fun(k:Nat)=>a.length - k) (0)) ?_ ⟨0,kj trivial ?_⟩
 all_goals try(apply aq;repeat' first|exact ao|apply aa|(apply au;intro zb hc)|(apply ar;intro zb)|intro j')<;>try apply aw
 rintro ms1 S1 ⟨k,h1_0,h1_1,h1_5,c1_0,c1_1,hm1⟩
 have fL1:=(aa h1_0 (aa h1_1 h1_5))
 refine aQ fL1 ?_
 all_goals try(apply aq;repeat' first|exact ao|apply aa|(apply au;intro zb hc)|(apply ar;intro zb)|intro j')<;>try apply aw
 ·rw[decide_eq_false];intro e;subst e;exact hc rfl
 ·focus
   refine ay ((fun(k:Nat)=>a.length - k) (k+1)) (dC fL1 ?_) ⟨k+1,dC fL1 ?_⟩
   all_goals try(apply aq;repeat' first|exact ao|apply aa|(apply au;intro zb hc)|(apply ar;intro zb)|intro j')<;>try apply aw
  rw[lL (by omega) (by omega)];exact⟨c1_1,hc⟩
 ·rw[decide_eq_true]
  rw[ah (by omega),ah (by omega)]at c1_1;exact c1_1
theorem bV {m0 m1:Bool} (a b:List Int) (ha:a.length≤1099511627776) (hb:b.length≤1099511627776):Fun Tryz.prog 144 [(.sl (.lent m0) (List.map (PV.int .i64) (a))),(.sl (.lent m1) (List.map (PV.int .i64) (b)))] [(.bool (decide (a=b)))]:=by
 refine fO bA [4] Tryz.func144 ?_
 refine dE trivial ?_
 all_goals try(apply aq;repeat' first|exact ao|apply aa|(apply au;intro zb hc)|(apply ar;intro zb)|intro j')<;>try apply aw
 ·rw[decide_eq_false];intro e;subst e;exact hc rfl
 refine az (fun ms1 S1=>∃(k:Nat),S1.e 0=.p (.sl (.lent m0) (List.map (PV.int .i64) (a)))∧S1.e 1=.p (.sl (.lent m1) (List.map (PV.int .i64) (b)))∧S1.e 12=.p (.int .i64 (a.length))∧S1.e 13=.p (.int .i64 (k))∧(k≤a.length)∧(a.take k=b.take k)∧ms1=a.length - k) ((fun(k:Nat)=>a.length - k) (0)) ?_ ⟨0,kj trivial ?_⟩
 all_goals try(apply aq;repeat' first|exact ao|apply aa|(apply au;intro zb hc)|(apply ar;intro zb)|intro j')<;>try apply aw
 rintro ms1 S1 ⟨k,h1_0,h1_1,h1_12,h1_13,c1_0,c1_1,hm1⟩
 have fL1:=(aa h1_0 (aa h1_1 (aa h1_12 h1_13)))
 refine aQ fL1 ?_
 all_goals try(apply aq;repeat' first|exact ao|apply aa|(apply au;intro zb hc)|(apply ar;intro zb)|intro j')<;>try apply aw
 ·rw[decide_eq_false];intro e;subst e;exact hc rfl
 ·focus
   refine ay ((fun(k:Nat)=>a.length - k) (k+1)) (dC fL1 ?_) ⟨k+1,dC fL1 ?_⟩
   all_goals try(apply aq;repeat' first|exact ao|apply aa|(apply au;intro zb hc)|(apply ar;intro zb)|intro j')<;>try apply aw
  rw[lL (by omega) (by omega)];exact⟨c1_1,hc⟩
 ·rw[decide_eq_true]
  rw[ah (by omega),ah (by omega)]at c1_1;exact c1_1
theorem td {a b:Int}:gf b a= - gf a b:=by
 unfold gf;split<;>split<;>first|omega|(split<;>omega)
theorem tc:∀{a b:List Int},ed b a= - ed a b
 |[],[]=>rfl
 |[],_::_=>rfl
 |_::_,[]=>rfl
 |a::x,b::y=>by
  rw[ed,ed,td]
  by_cases h:gf a b=0
  ·rw[if_neg (by omega),if_neg (by omega),tc]
  ·rw[if_pos (by omega),if_pos h]
theorem A2 {a b:List Int}:pj b a= - pj a b:=by
 unfold pj
 rw[td (a:=a.length)]
 by_cases h:gf a.length b.length=0
 ·rw[if_neg (by omega),if_neg (by omega),tc]
 ·rw[if_pos (by omega),if_pos h]
theorem Ep:∀{a b:List Int},ed a b=0→a=b
 |[],[],_=>rfl
 |[],_::_,h=>by simp[ed]at h
 |_::_,[],h=>by simp[ed]at h
 |a::x,b::y,h=>by
  rw[ed]at h
  by_cases e:gf a b=0
  ·rw[if_neg (by omega)]at h;rw[cmpI_0.1 e,Ep h]
  ·rw[if_pos e]at h;exact absurd h e
theorem OF {a b:List Int} (h:pj a b=0):a=b:=by
 unfold pj at h
 by_cases e:gf a.length b.length=0
 ·rw[if_neg (by omega)]at h;exact Ep h
 ·rw[if_pos e]at h;exact absurd h e
theorem ta:∀{a:List Int},ed a a=0
 |[]=>rfl
 |a::x=>by rw[ed,if_neg (fun h=>h (cmpI_0.2 rfl))];exact ta
theorem cmpI_lt_iff {a b:Int}:gf a b<0↔a<b:=by unfold gf;split;omega;split<;>omega
theorem rC:∀{a b c:List Int},ed a b<0→ed b c<0→ed a c<0
 |[],[],_,h,_=>by simp[ed]at h
 |[],_::_,[],_,h=>by simp[ed]at h
 |[],_::_,_::_,_,_=>by simp[ed]
 |_::_,[],_,h,_=>by simp[ed]at h
 |_::_,_::_,[],_,h=>by simp[ed]at h
 |a::x,b::y,c::z,h1,h2=>by
  rw[ed]at h1 h2 ⊢
  by_cases e1:gf a b=0
  ·rw[if_neg (by omega)]at h1
   rw[cmpI_0.1 e1]
   by_cases e2:gf b c=0
   ·rw[if_neg (by omega)]at h2 ⊢;exact rC h1 h2
   ·rw[if_pos e2]at h2 ⊢;exact h2
  ·rw[if_pos e1]at h1
   have g1:=cmpI_lt_iff.1 h1
   by_cases e2:gf b c=0
   ·have:=cmpI_0.1 e2;subst this;rw[if_pos e1];exact h1
   ·rw[if_pos e2]at h2
    have g2:=cmpI_lt_iff.1 h2
    have g3:gf a c<0:=cmpI_lt_iff.2 (by omega)
    rw[if_pos (by omega)];exact g3
theorem zr {a b:List Int}:dr a b=true↔a.length<b.length∨(a.length=b.length∧ed a b<0):=by
 rw[dr,decide_eq_true_eq,pj]
 by_cases e:gf a.length b.length=0
 ·rw[if_neg (by omega)];have:=cmpI_0.1 e;omega
 ·rw[if_pos e,cmpI_lt_iff]
  have:¬(a.length:Int)=b.length:=fun h=>e (cmpI_0.2 h)
  omega
theorem lE {a b c:List Int} (h1:dr a b=true) (h2:dr b c=true):dr a c=true:=by
 rw[zr]at*
 rcases h1 with h1|⟨h1,g1⟩<;>rcases h2 with h2|⟨h2,g2⟩
 ·left;omega
 ·left;omega
 ·left;omega
 ·exact .inr ⟨by omega,rC g1 g2⟩
theorem pN {a:List Int}:dr a a=false:=by
 rw[Bool.eq_false_iff];intro h;rw[zr]at h
 rcases h with h|⟨_,h⟩
 ·omega
 ·rw[ta]at h;omega
theorem pM {a b:List Int} (h:dr a b=false) (hne:a≠b):dr b a=true:=by
 have h1:¬pj a b<0:=by simpa[dr]using h
 have h2:¬pj a b=0:=fun e=>hne (OF e)
 have h3:=A2 (a:=a) (b:=b)
 simp[dr];omega
def EV (a b:List Int):Prop:=dr b a=false
theorem Au {a b c:List Int} (h1:EV a b) (h2:EV b c):EV a c:=by
 unfold EV at*
 rw[Bool.eq_false_iff];intro h
 by_cases e:a=b
 ·subst e;rw[h]at h2;cases h2
 ·have:=pM h1 (Ne.symm e)
  rw[lE h this]at h2;cases h2
theorem zo {a b:List Int} (h:dr a b=true):EV a b:=by
 unfold EV;rw[Bool.eq_false_iff];intro h2
 have:=lE h h2;rw[pN]at this;cases this
def th (L:List (List Int)) (p:List Int):Nat→Nat
 |0=>0
 |k+1=>if dr p (L.getD k [])=true then th L p k else k+1
theorem jY {L:List (List Int)} {p:List Int}:∀{k:Nat},th L p k≤k∧(∀i,th L p k≤i→i<k→dr p (L.getD i [])=true)∧(th L p k=0∨dr p (L.getD (th L p k - 1) [])=false)
 |0=>⟨am _,fun i _ h=>absurd h (by omega),.inl rfl⟩
 |k+1=>by
  rw[th]
  by_cases e:dr p (L.getD k [])=true
  ·rw[if_pos e]
   obtain⟨h1,h2,h3⟩:=jY (L:=L) (p:=p) (k:=k)
   refine⟨by omega,fun i hi hk=> ?_,h3⟩
   by_cases q:i=k
   ·subst q;exact e
   ·exact h2 i hi (by omega)
  ·rw[if_neg e]
   refine⟨am _,fun i hi hk=>by omega,.inr ?_⟩
   simpa using e
def ir (L:List (List Int)) (p:List Int) (j:Nat):List (List Int):=L.take j++p::L.drop j
def og (L:List (List Int)) (p:List Int):List (List Int):=ir L p (th L p L.length)
def gm (L:List (List Int)) (p:List Int):List (List Int):=if 0<th L p L.length∧L.getD (th L p L.length - 1) []=p then L else og L p
def bL (L:List (List Int)):List (List Int):=L.foldl og []
def oY (L:List (List Int)):List (List Int):=L.foldl gm []
theorem dw {L:List (List Int)} {p:List Int} {j:Nat}:(ir L p j).length=L.length+1:=by
 unfold ir;simp;omega
theorem vB {L:List (List Int)} {p x:List Int} {j:Nat}:x∈ir L p j↔x=p∨x∈L:=by
 unfold ir
 rw[List.mem_append,List.mem_cons]
 have:x∈L↔x∈L.take j∨x∈L.drop j:=by rw[←List.mem_append,List.take_append_drop]
 rw[this];constructor
 ·rintro(h|h|h)<;>simp[h]
 ·rintro(h|h|h)<;>simp[h]
def WS (L:List (List Int)):Prop:=L.Pairwise EV
def SS (L:List (List Int)):Prop:=L.Pairwise fun a b=>dr a b=true
theorem tP {R:List Int→List Int→Prop} {L:List (List Int)} (h:L.Pairwise R) {i j:Nat} (hij:i<j) (hj:j<L.length):R (L.getD i []) (L.getD j []):=by
 rw[List.pairwise_iff_getElem]at h
 have:=h i j (by omega) hj hij
 rw[ac,ac,ae (by omega),ae hj]
 exact this
theorem BJ {L:List (List Int)} {j:Nat} {x:List Int} (h:x∈L.take j):∃i,i<j∧i<L.length∧L.getD i []=x:=by
 obtain⟨i,hi,e⟩:=bh h
 simp only[aV]at hi
 refine⟨i,by omega,by omega, ?_⟩
 rw[List.getElem_take]at e
 rw[ac,ae (by omega)];exact e
theorem Ee {L:List (List Int)} {j:Nat} {x:List Int} (h:x∈L.drop j):∃i,j≤i∧i<L.length∧L.getD i []=x:=by
 obtain⟨i,hi,e⟩:=bh h
 simp only[List.length_drop]at hi
 refine⟨j+i,by omega,by omega, ?_⟩
 rw[List.getElem_drop]at e
 rw[ac,ae (by omega)];exact e
theorem yP {R:List Int→List Int→Prop} {L:List (List Int)} {p:List Int} {j:Nat} (h:L.Pairwise R) (h1:∀i,i<j→i<L.length→R (L.getD i []) p) (h2:∀i,j≤i→i<L.length→R p (L.getD i [])):(ir L p j).Pairwise R:=by
 unfold ir
 have h3:=h
 rw[←List.take_append_drop j L,List.pairwise_append]at h3
 rw[List.pairwise_append,List.pairwise_cons]
 refine⟨h3.1,⟨fun x hx=> ?_,h3.2.1⟩,fun x hx y hy=> ?_⟩
 ·obtain⟨i,q1,q2,rfl⟩:=Ee hx;exact h2 i q1 q2
 ·rcases List.mem_cons.1 hy with rfl|hy
  ·obtain⟨i,q1,q2,rfl⟩:=BJ hx;exact h1 i q1 q2
  ·exact h3.2.2 x hx y hy
theorem EJ {L:List (List Int)} {p:List Int} (h:L.Pairwise EV) {i:Nat} (hi:i<th L p L.length):EV (L.getD i []) p:=by
 obtain⟨h1,h2,h3⟩:=jY (L:=L) (p:=p) (k:=L.length)
 rcases h3 with h3|h3
 ·omega
 ·by_cases e:i=th L p L.length - 1
  ·rw[e];exact h3
  ·exact Au (tP h (i:=i) (j:=th L p L.length - 1) (by omega) (by omega)) h3
theorem Hb {L:List (List Int)} {p:List Int} (h:WS L):WS (og L p):=
 yP h (fun _ hi _=>EJ h hi) fun i hi hl=>zo ((jY (L:=L) (p:=p) (k:=L.length)).2.1 i hi hl)
theorem JK {L:List (List Int)} (h:SS L):WS L:=h.imp zo
theorem FV {L:List (List Int)} {p:List Int} (h:SS L):SS (gm L p):=by
 unfold gm
 split
 ·exact h
 ·rename_i hn
  refine yP h (fun i hi hl=> ?_) fun i hi hl=>(jY (L:=L) (p:=p) (k:=L.length)).2.1 i hi hl
  have h0:=EJ (JK h) hi
  have h1:=(jY (L:=L) (p:=p) (k:=L.length)).1
  refine pM h0 fun e=>hn ⟨by omega, ?_⟩
  by_cases q:i=th L p L.length - 1
  ·rw[←q];exact e.symm
  ·have h2:=tP h (i:=i) (j:=th L p L.length - 1) (by omega) (by omega)
   have h3:=EJ (JK h) (L:=L) (p:=p) (i:=th L p L.length - 1) (by omega)
   rw[←e]at h2
   unfold EV at h3;rw[h2]at h3;cases h3
theorem putP_mem {L:List (List Int)} {p x:List Int}:x∈gm L p↔x=p∨x∈L:=by
 unfold gm
 split
 ·rename_i h
  constructor
  ·exact .inr
  ·rintro(rfl|h2)
   ·rw[←h.2];exact aF (by have:=(jY (L:=L) (p:=x) (k:=L.length)).1;omega)
   ·exact h2
 ·exact vB
theorem Dz (L:List (List Int)):∀{A:List (List Int)},WS A→WS (L.foldl og A):=by
 induction L with
 |nil=>exact fun h=>h
 |cons x l ih=>exact fun h=>ih (Hb h)
theorem ob (L:List (List Int)):∀{A:List (List Int)} {x:List Int},x∈L.foldl og A↔x∈L∨x∈A:=by
 induction L with
 |nil=>simp
 |cons y l ih=>intro A x;rw[List.foldl_cons,ih];unfold og;rw[vB,List.mem_cons,or_left_comm,or_assoc]
theorem KY (L:List (List Int)):∀{A:List (List Int)},SS A→SS (L.foldl gm A):=by
 induction L with
 |nil=>exact fun h=>h
 |cons x l ih=>exact fun h=>ih (FV h)
theorem yq (L:List (List Int)):∀{A:List (List Int)} {x:List Int},x∈L.foldl gm A↔x∈L∨x∈A:=by
 induction L with
 |nil=>simp
 |cons y l ih=>intro A x;rw[List.foldl_cons,ih,putP_mem,List.mem_cons,or_left_comm,or_assoc]
theorem vA {L:List (List Int)} {p:List Int}:(og L p).length=L.length+1:=dw
theorem sG (L:List (List Int)):∀{A:List (List Int)},(L.foldl og A).length=L.length+A.length:=by
 induction L with
 |nil=>simp
 |cons y l ih=>intro A;rw[List.foldl_cons,ih,vA,aC];omega
theorem FU (L:List (List Int)):∀{A:List (List Int)},(L.foldl gm A).length≤L.length+A.length:=by
 induction L with
 |nil=>simp
 |cons y l ih=>
  intro A;rw[List.foldl_cons]
  have h:=ih (A:=gm A y)
  have:(gm A y).length≤A.length+1:=by unfold gm;split;omega;rw[vA];omega
  rw[aC];omega
def gn (L:List (List Int)):Nat→List (List Int)
 |0=>[]
 |j+1=>gn L j++if 0<j∧L.getD j []=L.getD (j - 1) []then[]else[L.getD j []]
theorem cptF_mem {L:List (List Int)} {x:List Int}:∀{j:Nat},x∈gn L j↔∃i,i<j∧L.getD i []=x
 |0=>by simp[gn]
 |j+1=>by
  rw[gn,List.mem_append,cptF_mem]
  constructor
  ·rintro(⟨i,h1,h2⟩|h)
   ·exact⟨i,by omega,h2⟩
   ·split at h
    ·cases h
    ·simp at h;exact⟨j,by omega,h.symm⟩
  ·rintro⟨i,h1,h2⟩
   by_cases e:i=j
   ·subst e
    by_cases q:0<i∧L.getD i []=L.getD (i - 1) []
    ·left;exact⟨i - 1,by omega,by rw[←q.2];exact h2⟩
    ·right;rw[if_neg q,h2];exact List.mem_singleton.2 rfl
   ·left;exact⟨i,by omega,h2⟩
theorem ux {L:List (List Int)} (h:WS L):∀{j:Nat},j≤L.length→SS (gn L j)
 |0,_=>List.Pairwise.nil
 |j+1,hj=>by
  rw[gn]
  by_cases q:0<j∧L.getD j []=L.getD (j - 1) []
  ·rw[if_pos q,aN];exact ux h (by omega)
  ·rw[if_neg q]
   refine List.pairwise_append.2 ⟨ux h (by omega),List.pairwise_singleton _ _,fun a ha b hb=> ?_⟩
   rw[aP]at hb;subst hb
   obtain⟨i,h1,rfl⟩:=cptF_mem.1 ha
   have h2:dr (L.getD (j - 1) []) (L.getD j [])=true:=pM (tP h (i:=j - 1) (j:=j) (by omega) (by omega)) (fun e=>q ⟨by omega,e⟩)
   by_cases e:i=j - 1
   ·rw[e];exact h2
   ·have h3:=tP h (i:=i) (j:=j - 1) (by omega) (by omega)
    by_cases e2:L.getD i []=L.getD (j - 1) []
    ·rw[e2];exact h2
    ·exact lE (pM h3 (Ne.symm e2)) h2
theorem B3:∀{A B:List (List Int)},SS A→SS B→(∀x,x∈A↔x∈B)→A=B
 |[],[],_,_,_=>rfl
 |[],b::B,_,_,h=>by have:=(h b).2 (by simp);cases this
 |a::A,[],_,_,h=>by have:=(h a).1 (by simp);cases this
 |a::A,b::B,ha,hb,h=>by
  have pa:=List.pairwise_cons.1 ha
  have pb:=List.pairwise_cons.1 hb
  have hn:∀{x y:List Int},dr x y=true→dr y x=true→False:=fun h1 h2=>by
   have:=lE h1 h2;rw[pN]at this;cases this
  have e:a=b:=by
   rcases List.mem_cons.1 ((h a).1 (by simp))with q|q
   ·exact q
   ·rcases List.mem_cons.1 ((h b).2 (by simp))with q2|q2
    ·exact q2.symm
    ·exact(hn (pb.1 _ q) (pa.1 _ q2)).elim
  subst e
  rw[B3 pa.2 pb.2 fun x=> ?_]
  constructor
  ·intro hx
   rcases List.mem_cons.1 ((h x).1 (by simp[hx]))with rfl|q
   ·have:=pa.1 _ hx;rw[pN]at this;cases this
   ·exact q
  ·intro hx
   rcases List.mem_cons.1 ((h x).2 (by simp[hx]))with rfl|q
   ·have:=pb.1 _ hx;rw[pN]at this;cases this
   ·exact q
theorem Lm (L:List (List Int)):gn (bL L) (bL L).length=oY L:=by
 refine B3 (ux (Dz L List.Pairwise.nil) (am _)) (KY L List.Pairwise.nil) fun x=> ?_
 rw[cptF_mem,oY,yq]
 have h:x∈bL L↔x∈L:=by unfold bL;rw[ob];simp
 constructor
 ·rintro⟨i,h1,rfl⟩;exact .inl (h.1 (aF h1))
 ·rintro(h1|h1)
  ·have:=h.2 h1
   obtain⟨i,hi,e⟩:=bh this
   exact⟨i,hi,by rw[ac,ae hi];exact e⟩
  ·cases h1
theorem lj {L:List (List Int)} {p:List Int}:∀{k j:Nat},j≤k→(∀q,j≤q→q<k→dr p (L.getD q [])=true)→(0<j→dr p (L.getD (j - 1) [])=false)→th L p k=j
 |0,j,h,_,_=>by rw[th];omega
 |k+1,j,h,h1,h2=>by
  rw[th]
  by_cases e:j=k+1
  ·subst e
   have:=h2 (by omega)
   rw[Nat.add_sub_cancel]at this
   rw[this];rfl
  ·rw[if_pos (h1 k (by omega) (by omega))]
   exact lj (by omega) (fun q a b=>h1 q a (by omega)) h2
theorem ow {α:Type} {A B:List α} {d:α} {i:Nat} (h:i<A.length):(A++B).getD i d=A.getD i d:=by
 rw[ac,ac,aE h]
theorem Hd {L:List (List Int)} {p:List Int} {j:Nat} (h:j≤L.length):(ir L p j).getD j []=p:=by
 unfold ir
 rw[ac,aM (by simp;omega),aV,Nat.min_eq_left h,Nat.sub_self];rfl
theorem Hc {L:List (List Int)} {p:List Int} {j i:Nat} (h:j≤L.length) (hi:i<j):(ir L p j).getD i []=L.getD i []:=by
 unfold ir
 rw[ow (by simp;omega),ac,ac,List.getElem?_take_of_lt hi]
theorem AB {L:List (List Int)} {p:List Int} {j:Nat} (h0:0<j) (h:j≤L.length) {R:List (List Int)}:((ir L p j++R).set j (L.getD (j - 1) [])).set (j - 1) p=ir L p (j - 1)++R:=by
 obtain⟨i,rfl⟩:∃i,j=i+1:=⟨j - 1,by omega⟩
 rw[Nat.add_sub_cancel]
 apply List.ext_getElem?;intro q
 have l1:(ir L p (i+1)++R).length=L.length+1+R.length:=by rw[ak,dw]
 rw[List.getElem?_set,List.getElem?_set,List.length_set,l1]
 have hd:∀{a:Nat},a<L.length→L[a]? =some (L.getD a []):=fun {a} ha=>by rw[ac,ae ha];rfl
 have key:∀{k q:Nat},k≤L.length→q<L.length+1→(ir L p k)[q]? =if q<k then L[q]? else if q=k then some p else L[q - 1]? :=fun {k q} hk hq=>by
  unfold ir
  by_cases h1:q<k
  ·rw[if_pos h1,aE (by simp;omega),List.getElem?_take_of_lt h1]
  ·rw[if_neg h1,aM (by simp;omega),aV,Nat.min_eq_left hk]
   by_cases h2:q=k
   ·rw[if_pos h2,h2,Nat.sub_self];rfl
   ·rw[if_neg h2,show q - k=(q - k - 1)+1 by omega,List.getElem?_cons_succ,aW];congr 1;omega
 by_cases hq:q<L.length+1
 ·rw[aE (by rw[dw];exact hq),aE (by rw[dw];exact hq),key (by omega) hq,key (by omega) hq]
  by_cases e1:i=q
  ·subst e1;rw[if_pos rfl,if_pos (by omega),if_neg (by omega),if_pos rfl]
  ·rw[if_neg e1]
   by_cases e2:i+1=q
   ·subst e2;rw[if_pos rfl,if_pos (by omega),if_neg (by omega),if_neg (by omega),Nat.add_sub_cancel,hd (by omega)]
   ·rw[if_neg e2]
    by_cases e3:q<i
    ·rw[if_pos (by omega),if_pos e3]
    ·rw[if_neg (by omega),if_neg (by omega),if_neg e3,if_neg (by omega)]
 ·rw[if_neg (by omega),if_neg (by omega),aM (by rw[dw];omega),aM (by rw[dw];omega),dw,dw]
theorem qN {L:List (List Int)} {i:Nat} (h:i<L.length):bL (L.take (i+1))=og (bL (L.take i)) (L.getD i []):=by
 rw[aX (d:=[]) h];unfold bL;rw[List.foldl_append];rfl
theorem DA {L:List (List Int)} {i:Nat} (h:i≤L.length):(bL (L.take i)).length=i:=by
 unfold bL;rw[sG,aV,List.length_nil];omega
theorem DG {L:List (List Int)} {p:List Int}:ir L p L.length=L++[p]:=by unfold ir;simp
theorem yL {L:List (List Int)}:bL (L.take 1)=L.take 1:=by
 cases L with
 |nil=>rfl
 |cons a l=>rfl
theorem Ay {L:List (List Int)} {i:Nat} {x:List Int} (h:x∈bL (L.take i)):x∈L:=by
 unfold bL at h
 rw[ob]at h
 rcases h with h|h
 ·exact List.mem_of_mem_take h
 ·cases h
end Go.Gl
namespace Go.Proofs
open Go.Shelf
def Tryz.lays129_ren:Go.Shelf.Ren:=⟨fun|129=>209|n=>n,fun|53=>122|3=>3|4=>4|46=>114|5=>5|9=>9|n=>n,fun|n=>n⟩
theorem Tryz.lays129:Go.Proofs.Lays.n129 Tryz.prog Tryz.lays129_ren:={
 mixed:=by kernel_rfl
 f129:=Tryz.func209.trans (congrArg some (by kernel_rfl))
 t3:=Tryz.underlying3
 a3:=Tryz.isAgg3
 z3:=Tryz.sizeOf3
 v3:=Tryz.zeroValue3
 t4:=Tryz.underlying4
 a4:=Tryz.isAgg4
 z4:=Tryz.sizeOf4
 v4:=Tryz.zeroValue4
 t5:=Tryz.underlying5
 a5:=Tryz.isAgg5
 z5:=Tryz.sizeOf5
 v5:=Tryz.zeroValue5
 t9:=Tryz.underlying9
 a9:=Tryz.isAgg9
 z9:=Tryz.sizeOf9
 v9:=Tryz.zeroValue9
 t46:=Tryz.underlying114
 a46:=Tryz.isAgg114
 z46:=Tryz.sizeOf114
 v46:=Tryz.zeroValue114
 t53:=Tryz.underlying122
 a53:=Tryz.isAgg122
 z53:=Tryz.sizeOf122
 v53:=Tryz.zeroValue122}
theorem Tryz.bits_Len64 (x:Int) (w:World) (h0:0≤x) (h1:x≤18446744073709551615):
  Calls Tryz.prog 209 #[.int .u64 x] w fun e w'=>e=.returned (.int .i64 (Lib.bitLen x.toNat))∧w'=w:=Any.bits_Len64 Tryz.lays129 x w h0 h1
def Tryz.lays112_ren:Go.Shelf.Ren:=⟨fun|112=>133|n=>n,fun|28=>22|3=>3|4=>4|0=>0|n=>n,fun|n=>n⟩
theorem Tryz.lays112:Go.Proofs.Lays.n112 Tryz.prog Tryz.lays112_ren:={
 mixed:=by kernel_rfl
 f112:=Tryz.func133.trans (congrArg some (by kernel_rfl))
 t0:=Tryz.underlying0
 a0:=Tryz.isAgg0
 z0:=Tryz.sizeOf0
 v0:=Tryz.zeroValue0
 t3:=Tryz.underlying3
 a3:=Tryz.isAgg3
 z3:=Tryz.sizeOf3
 v3:=Tryz.zeroValue3
 t4:=Tryz.underlying4
 a4:=Tryz.isAgg4
 z4:=Tryz.sizeOf4
 v4:=Tryz.zeroValue4
 t28:=Tryz.underlying22
 a28:=Tryz.isAgg22
 z28:=Tryz.sizeOf22
 v28:=Tryz.zeroValue22}
open Go.RowKit Go.Lib Go.Sort in
theorem Tryz.slices_Reverse_int (blk off cap:Nat) (zs:List Int) (w:World) (hH:Holds (Value.int .i64) w blk off zs.toArray) (hsz:zs.length≤9223372036854775807):
  Calls Tryz.prog 133 #[.slice (some ⟨blk,off,none⟩) zs.length cap] w fun e w'=>e=.returned (.tuple #[])∧∃n,w'=putRow (Value.int .i64) (Sort.ahead w n) blk off zs.reverse.toArray:=Any.slices_Reverse_int Tryz.lays112 blk off cap zs w hH hsz
open Go.RowKit Go.Lib Go.Sort in
theorem Tryz.slices_Reverse_int_empty (a:Option Addr) (cap:Nat) (w:World):
  Calls Tryz.prog 133 #[.slice a 0 cap] w fun e w'=>e=.returned (.tuple #[])∧w'=w:=Any.slices_Reverse_int_empty Tryz.lays112 a cap w
end Go.Proofs
namespace Go.Gl
open Go Go.Proofs
variable [Amb] [NoQ]
theorem uA (n:Int) (h0:0≤n) (h1:n≤255):Fun Tryz.prog 209 [.int .u64 n] [.int .i64 (Lib.bitLen n.toNat:Int)]:=by
 refine Fun.of_plain Tryz.func209 rfl rfl rfl ?_
 intro w F G vs _ hv
 simp only[RepL]at hv
 obtain⟨a,vs1,rfl,ha,rfl⟩:=hv
 have ha:=wU ha
 subst ha
 exact(Tryz.bits_Len64 n w h0 (by omega)).mono fun e w' h=>⟨h.1,h.2▸Go.RowKit.Below.refl _ _⟩
theorem fM (Z:List (List Int)) (hl:Z.length≤12) (hz:∀l∈Z,l.length≤1048576):CallT Tryz.prog false 200 [.mu false (List.map (bW false) (Z)),.pv (.int .i64 (0)),.pv (.int .i64 ((Z.length:Int))),.pv (.fn 156 [] [])] [some (List.map (bW false) (bL Z)),none,none,none] []:=by
 refine fX bA [] Tryz.func200 ?_
 have cD1:=iE [false,false,false,false,false,false,false,false,false,false,false,false,false,false,true,false,false] [];have cD2:=iE [false,false,false,false,false,false,false,false,false,false,false,false,false,false,false,true,false,true] [(2,15),(3,15),(4,15)]
 refine aQ trivial ?_
 all_goals try(apply aq;repeat' first|exact ao|apply aa|(apply au;intro zb hc)|(apply ar;intro zb)|intro j')<;>try apply aw
 refine az (fun ms1 S1=>∃(i:Nat),S1.e 0=.ref 0 0 (bL (Z.take i)++Z.drop i).length∧S1.h 0=.live true (List.map (bW false) (bL (Z.take i)++Z.drop i))∧0<S1.n∧S1.e 1=.p (.int .i64 (0))∧S1.e 2=.p (.int .i64 ((Z.length:Int)))∧S1.e 3=.p (.fn 156 [] [])∧S1.e 8=.p (.int .i64 (i))∧(i≤Z.length∨(Z.length=0∧i=1))∧(1≤i)∧ms1=Z.length - i) ((fun(i:Nat)=>Z.length - i) (1)) ?_ ⟨1,dC trivial ?_⟩
 all_goals try(apply aq;repeat' first|exact ao|apply aa|(apply au;intro zb hc)|(apply ar;intro zb)|intro j')<;>try apply aw
 rintro ms1 S1 ⟨i,h1_0,b1_0,l1_0,h1_1,h1_2,h1_3,h1_8,c1_0,c1_1,hm1⟩
 have n0:=bi (x:=0) (n:=S1.n)
 have fL1:=(aa h1_0 (aa b1_0 (aa h1_1 (aa h1_2 (aa h1_3 (aa h1_8 n0))))))
 ·by_cases hi:i<Z.length
  ·have e0:=DA (L:=Z) (i:=i) (by omega)
   refine aQ fL1 ?_
   all_goals try(apply aq;repeat' first|exact ao|apply aa|(apply au;intro zb hc)|(apply ar;intro zb)|intro j')<;>try apply aw
   refine az (fun ms2 S2=>∃(j:Nat),S2.e 0=.ref 0 0 (ir (bL (Z.take i)) (Z.getD i []) j++Z.drop (i+1)).length∧S2.h 0=.live true (List.map (bW false) (ir (bL (Z.take i)) (Z.getD i []) j++Z.drop (i+1)))∧0<S2.n∧S2.e 1=.p (.int .i64 (0))∧S2.e 2=.p (.int .i64 ((Z.length:Int)))∧S2.e 3=.p (.fn 156 [] [])∧S2.e 8=.p (.int .i64 (i))∧S2.e 9=.p (.int .i64 (j))∧(j≤i)∧(∀q,j≤q→q<i→dr (Z.getD i []) ((bL (Z.take i)).getD q [])=true)∧S1.n≤S2.n∧ms2=j) ((fun(j:Nat)=>j) (i)) ?_ ⟨i,dC fL1 ?_⟩
   all_goals try(apply aq;repeat' first|exact ao|apply aa|(apply au;intro zb hc)|(apply ar;intro zb)|intro j')<;>try apply aw
   rintro ms2 S2 ⟨j,h2_0,b2_0,l2_0,h2_1,h2_2,h2_3,h2_8,h2_9,c2_0,c2_1,u2_0,hm2⟩
   have n0:=bi (x:=0) (n:=S2.n)
   have fL2:=(aa h2_0 (aa b2_0 (aa h2_1 (aa h2_2 (aa h2_3 (aa h2_8 (aa h2_9 n0)))))))
   ·have e4:=dw (L:=bL (Z.take i)) (p:=Z.getD i []) (j:=j)
    have e1:(ir (bL (Z.take i)) (Z.getD i []) j++Z.drop (i+1)).getD j []=Z.getD i []:=by rw[ow (by omega),Hd (by omega)]
    have e5:=hz (Z.getD i []) (aF hi)
    by_cases hj:0<j
    ·have e3:((j:Int) - 1).toNat=j - 1:=by omega
     have e2:(ir (bL (Z.take i)) (Z.getD i []) j++Z.drop (i+1)).getD (j - 1) []=(bL (Z.take i)).getD (j - 1) []:=by rw[ow (by omega),Hc (by omega) (by omega)]
     have e6:=hz ((bL (Z.take i)).getD (j - 1) []) (Ay (aF (by omega)))
     have e7:=AB (L:=bL (Z.take i)) (p:=Z.getD i []) (j:=j) hj (by omega) (R:=Z.drop (i+1))
     have cE1:= @ia
     refine aQ (aa fL2 (aa @e1 (aa @e2 (aa @e3 @e7)))) ?_
     all_goals try(apply aq;repeat' first|exact ao|apply aa|(apply au;intro zb hc)|(apply ar;intro zb)|intro j')<;>try apply aw
     ·focus
       refine ay ((fun(j:Nat)=>j) (j-1)) (dC fL2 ?_) ⟨j-1,dC fL2 ?_⟩
       all_goals try(apply aq;repeat' first|exact ao|apply aa|(apply au;intro zb hc)|(apply ar;intro zb)|intro j')<;>try apply aw
      all_goals try (intro q h1 h2;by_cases h3:q=j - 1)
      all_goals try (subst h3;exact decide_eq_true hc)
      all_goals try (exact c2_1 q (by omega) h2)
      rw[ak,ak,dw,dw]
     ·have e8:th (bL (Z.take i)) (Z.getD i []) (bL (Z.take i)).length=j:=lj (by omega) (fun q a b=>c2_1 q a (by omega)) fun _=>decide_eq_false (by omega)
      have e9:ir (bL (Z.take i)) (Z.getD i []) j=bL (Z.take (i+1)):=by rw[qN hi,og,e8]
      focus
       refine ay ((fun(i:Nat)=>Z.length - i) (i+1)) (dC fL2 ?_) ⟨i+1,dC fL2 ?_⟩
       all_goals try(apply aq;repeat' first|exact ao|apply aa|(apply au;intro zb hc)|(apply ar;intro zb)|intro j')<;>try apply aw
      all_goals rw[e9]
    ·obtain rfl:j=0:=by omega
     have cE1:=trivial
     refine aQ fL2 ?_
     all_goals try(apply aq;repeat' first|exact ao|apply aa|(apply au;intro zb hc)|(apply ar;intro zb)|intro j')<;>try apply aw
     have e8:th (bL (Z.take i)) (Z.getD i []) (bL (Z.take i)).length=0:=lj (by omega) (fun q a b=>c2_1 q a (by omega)) fun h=>absurd h (by omega)
     have e9:ir (bL (Z.take i)) (Z.getD i []) 0=bL (Z.take (i+1)):=by rw[qN hi,og,e8]
     focus
      refine ay ((fun(i:Nat)=>Z.length - i) (i+1)) (dC fL2 ?_) ⟨i+1,dC fL2 ?_⟩
      all_goals try(apply aq;repeat' first|exact ao|apply aa|(apply au;intro zb hc)|(apply ar;intro zb)|intro j')<;>try apply aw
     all_goals rw[e9]
   ·rw[ak,ak,dw,e0,List.length_drop,List.length_drop];omega
   ·have e1:=DG (L:=bL (Z.take i)) (p:=Z.getD i [])
    rw[e0]at e1
    rw[e1,aB,rm hi];rfl
  ·have e1:bL (Z.take i)++Z.drop i=bL Z:=by
    rcases c1_0 with h|⟨h,_⟩
    ·rw[ah (by omega),aL (by omega),aN]
    ·rw[ah (by omega),aL (by omega),aN]
   have cE1:=trivial
   refine aQ (aa fL1 @e1) ?_
   all_goals try(apply aq;repeat' first|exact ao|apply aa|(apply au;intro zb hc)|(apply ar;intro zb)|intro j')<;>try apply aw
 ·rw[yL,List.take_append_drop]
 ·rw[yL,List.take_append_drop]
theorem o7 (n:Int) (h0:0≤n) (h1:n≤255):Fun Tryz.prog 183 [(.int .u64 (n))] [(.int .i64 ((Lib.bitLen n.toNat:Int)))]:=by
 refine fO bA [2] Tryz.func183 ?_
 have cE1:= @uA
 refine aQ trivial ?_
 all_goals try(apply aq;repeat' first|exact ao|apply aa|(apply au;intro zb hc)|(apply ar;intro zb)|intro j')<;>try apply aw
def qi:FuncId→List Bool:=fun f=>if f=200 then[true]else[]
theorem Cj {f:FuncId}:qi f=if f=200 then[true]else[]:=_root_.id rfl
theorem zG:gk qi=false∧gG qi=false∧gF qi=false∧gE qi=false∧gH qi=false:=⟨rfl,rfl,rfl,rfl,rfl⟩
attribute [go_sem] Cj zG
theorem ik (Z:List (List Int)) (b:Int) (hl:Z.length≤12) (hz:∀l∈Z,l.length≤1048576):CallT Tryz.prog false 182 [.mu false (List.map (bW false) (Z)),.pv (.int .i64 (0)),.pv (.int .i64 ((Z.length:Int))),.pv (.int .i64 (b)),.pv (.fn 156 [] [])] [some (List.map (bW false) (bL Z)),none,none,none,none] []:=by
 refine fX qi [] Tryz.func182 ?_
 have cM1:= @fM;have cD1:=iE [false,false,false,false,false,false,false,false,false,false,false,false,false,true,false,false,false] []
 refine dE trivial ?_
 all_goals try(apply aq;repeat' first|exact ao|apply aa|(apply au;intro zb hc)|(apply ar;intro zb)|intro j')<;>try apply aw
 refine az (fun ms1 S1=>∃(u:Nat),S1.e 0=.ref 0 0 (Z).length∧S1.h 0=.live true (List.map (bW false) (Z))∧0<S1.n∧S1.e 1=.p (.int .i64 (0))∧S1.e 2=.p (.int .i64 ((Z.length:Int)))∧S1.e 3=.p (.int .i64 (b))∧S1.e 4=.p (.fn 156 [] [])∧S1.e 10=.p (.bool (true))∧S1.e 11=.p (.bool (true))∧ms1=u) ((fun(u:Nat)=>u) (0)) ?_ ⟨0,dC trivial ?_⟩
 all_goals try(apply aq;repeat' first|exact ao|apply aa|(apply au;intro zb hc)|(apply ar;intro zb)|intro j')<;>try apply aw
 rintro ms1 S1 ⟨u,h1_0,b1_0,l1_0,h1_1,h1_2,h1_3,h1_4,h1_10,h1_11,hm1⟩
 have n0:=bi (x:=0) (n:=S1.n)
 have fL1:=(aa h1_0 (aa b1_0 (aa h1_1 (aa h1_2 (aa h1_3 (aa h1_4 (aa h1_10 (aa h1_11 n0))))))))
 ·have e1:((Z.length:Int) - 0≤12)=True:=eq_true (by omega)
  refine aQ (aa fL1 @e1) ?_
  all_goals try(apply aq;repeat' first|exact ao|apply aa|(apply au;intro zb hc)|(apply ar;intro zb)|intro j')<;>try apply aw
def qf:FuncId→List Bool:=fun f=>if f=182 then[true]else[]
theorem Ch {f:FuncId}:qf f=if f=182 then[true]else[]:=_root_.id rfl
theorem zE:gk qf=false∧gG qf=false∧gF qf=false∧gE qf=false∧gH qf=false:=⟨rfl,rfl,rfl,rfl,rfl⟩
attribute [go_sem] Ch zE
theorem io (Z:List (List Int)) (hl:Z.length≤12) (hz:∀l∈Z,l.length≤1048576):CallT Tryz.prog false 155 [.mu false (List.map (bW false) (Z)),.pv (.fn 156 [] [])] [some (List.map (bW false) (bL Z)),none] []:=by
 refine fX qf [] Tryz.func155 ?_
 have cE1:= @o7;have cM1:= @ik
 have u3:(Tryz.prog.underlying 3).isSome=true:=by rw[Tryz.underlying3];rfl
 refine aQ @u3 ?_
 all_goals try(apply aq;repeat' first|exact ao|apply aa|(apply au;intro zb hc)|(apply ar;intro zb)|intro j')<;>try apply aw
 ·show(0:Int)≤_∧_≤(18446744073709551615:Int);omega
end Go.Gl
