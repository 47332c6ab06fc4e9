/-
  What the functions compute, and what the law asks of it: texts joined. Conditions: those that each lemma names.
-/
import Derived.Test.YtjimcmbfljdelaaGreatDoorGlC
import Derived.Test.YtjimcmbfljdelaaGreatDoorShelfS
set_option linter.unusedSimpArgs false
set_option linter.unusedVariables false
set_option maxRecDepth 20000
set_option linter.unusedSectionVars false
set_option maxHeartbeats 16000000
namespace Go.Gl
open Go Go.Proofs Go.Sort
variable [Amb]
theorem Bs:OZ Tryz.prog 221 List.reverse:=by
 refine⟨⟨_,Tryz.func221,rfl,rfl⟩,λl=>zC4,λw a cap=> ?_,λw B off cap l cs E lo hi hc hs hf hm hx=> ?_⟩
 .exact(Tryz.slices_Reverse_int_empty a cap w).mono λe w' h=>⟨h.1,w.drawn,zB1 _,by rw[h.2]⟩
 .have hg:∀j (h:j<l.length),cs[off+j]? =some (.int .i64 l[j]):=λj h=>hx j _ (zA1 h)
  refine(Tryz.slices_Reverse_int B off cap l w ?_ (zE0 hm (by decide))).mono λe w' h=>⟨h.1, ?_⟩
  .intro j hj
   simp only[List.size_toArray]at hj;constructor
   .simp only[World.cell?,hc,Option.isSome_none,Bool.false_eq_true,zE3]
    rw[hg j hj];simp[hj]
   .simp only[World.frozen?,hc]
    rcases hf with hf|hf
    .simp;omega
    .simp;omega
  .obtain⟨n,rfl⟩:=h.2
   refine⟨w.drawn+n,by omega, ?_⟩;have hlt:B<w.heap.size:=(zC7.1 hc).1;have hh:(mapBlock (Go.Sort.ahead w n) B (putCells (Value.int .i64) off l.reverse.toArray)).heap=(w.setRow B (cs.toList.take off++(l.reverse).map (Value.int .i64)++cs.toList.drop (off+l.length)).toArray).heap:=by
    apply Array.ext_getElem?;intro k;simp only[mapBlock,Go.Sort.ahead,World.setRow,Array.getElem?_modify];by_cases e:B=k
    .subst e
     rw[zB0 rfl,zB0 rfl,hc];simp only[zE4,onCells];congr 2;apply Array.ext_getElem?;intro i;simp only[putCells,Array.getElem?_mapIdx,zH8,List.size_toArray,zC4];rw[zA7,zE5];have htk:(cs.toList.take off).length=off:=by simp;omega
     rw[htk];by_cases h1:i<off
     .rw[zB0 h1,zH2,zB0 h1]
      cases q:cs[i]? with
      |none=>simp[q]
      |some v=>simp only[zE4,Array.getElem?_toList,q];rw[zA8 (by omega)]
     .rw[zA8 h1,zE5,zB2,zC4]
      by_cases h2:i-off<l.length
      .rw[zB0 h2,zA5,Array.getElem?_eq_getElem (by omega)]
       simp only[zE4];rw[zB0 ⟨by omega,by omega⟩,zA1 (by simpa using h2)];simp[h2]
      .rw[zA8 h2,zG0,show off+l.length+(i-off-l.length)=i by omega]
       cases q:cs[i]? with
       |none=>simp[q]
       |some v=>simp only[zE4,Array.getElem?_toList,q];rw[zA8 (by omega)]
    .rw[zA8 e,zA8 e]
   exact zB5 (λH=>({w with heap:=H,drawn:=w.drawn+n}:World)) hh
end Go.Gl
