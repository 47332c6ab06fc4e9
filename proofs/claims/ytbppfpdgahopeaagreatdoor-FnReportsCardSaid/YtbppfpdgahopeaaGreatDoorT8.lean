/-
  What the functions compute, and what the law asks of it: texts joined. Conditions: those that each lemma names.
-/
import Derived.Test.YtbppfpdgahopeaaGreatDoorT7
import Derived.Test.YtbppfpdgahopeaaGreatDoorT1
import Derived.Test.YtbppfpdgahopeaaGreatDoorT6
set_option linter.unusedSimpArgs false
set_option linter.unusedVariables false
set_option maxRecDepth 20000
set_option linter.unusedSectionVars false
set_option maxHeartbeats 16000000
namespace Go.Gl
open Go Go.Proofs
variable [Amb] [NoQ]
theorem BV {row:List Int} {c:Nat} {n:Int} (h:c<row.length):(row.getD c 0::row.set c n).Perm (n::row):=by
 rw[JM h]
 conv=>rhs;rw[←List.take_append_drop c row,aY h]
 refine(List.Perm.cons _ List.perm_middle).trans ((List.Perm.swap _ _ _).trans ?_)
 exact List.Perm.cons _ List.perm_middle.symm
theorem putT_perm:∀{T:List (List Int)} {n:Int},(bR T n).1.flatten.Perm (n::T.flatten)
 |[],n=>by simp[bR]
 |l::T,n=>by
  rw[bR]
  split
  ·simp only[List.flatten_cons]
   rw[List.append_assoc]
   exact List.perm_middle
  ·rename_i h
   have hc:fstN n l<l.length:=by have:=o9 (n:=n) (l:=l);omega
   simp only[List.flatten_cons]
   refine(List.Perm.append_left _ putT_perm).trans ?_
   refine List.perm_middle.trans ?_
   rw[←List.cons_append,←List.cons_append]
   exact List.Perm.append_right _ (BV hc)
theorem nC {p:List Int}:∀{k:Nat},k≤p.length→(aX p k).1.flatten.Perm (p.take k)
 |0,_=>by simp[aX]
 |k+1,h=>by
  rw[aX,az (d:=0) (by omega)]
  refine putT_perm.trans ((List.Perm.cons _ (nC (by omega))).trans ?_)
  exact(List.perm_append_singleton _ _).symm
theorem GI {p:List Int} (hp:p.Nodup) {k:Nat} (h:k<p.length):(aX p k).1.flatten.Nodup∧p.getD k 0∉(aX p k).1.flatten:=by
 have h1:=nC (p:=p) (k:=k) (by omega)
 refine⟨(h1.nodup_iff).2 (hp.sublist (List.take_sublist _ _)),fun hm=> ?_⟩
 have h2:=h1.subset hm
 have h3:(p.take (k+1)).Nodup:=hp.sublist (List.take_sublist _ _)
 rw[az (d:=0) h,List.nodup_append]at h3
 exact h3.2.2 _ h2 _ (by simp) rfl
theorem yp {v:Int}:∀{l:List Int} {i:Nat},v∉l→nK (fun x=>decide (v<x)) l i=if fstN v l=l.length then -1 else(i:Int)+fstN v l
 |[],i,_=>by simp[nK,fstN]
 |x::l,i,h=>by
  have hx:x≠v:=fun e=>h (by simp[e])
  have ih:=yp (l:=l) (i:=i+1) (fun q=>h (List.mem_cons_of_mem _ q))
  by_cases q:v<x
  ·have hf:fstN v (x::l)=0:=by rw[fstN,if_neg (by omega)]
   rw[nK,if_pos (decide_eq_true q),hf,if_neg (by simp)];simp
  ·have hf:fstN v (x::l)=fstN v l+1:=by rw[fstN,if_pos (by omega)]
   have hi:nK (fun x=>decide (v<x)) (x::l) i=nK (fun x=>decide (v<x)) l (i+1):=by rw[nK,if_neg (by simpa using q)]
   rw[hi,hf,ih,List.length_cons]
   by_cases g:fstN v l=l.length
   ·rw[if_pos g,if_pos (by omega)]
   ·rw[if_neg g,if_neg (by omega)];omega
theorem k7 (x v:Int):Fun Tryz.prog 115 [(.int .i64 (x)),(.pc [.int .i64 v])] [(.bool (decide (v<x)))]:=by
 refine fO aR [3] Tryz.func115 ?_
 refine ax trivial ?_
 all_goals try(apply ai;repeat' first|exact ah|apply aa|(apply ak;intro zb hc)|(apply aj;intro zb)|intro j')<;>try apply al
theorem Bm {C:R→Prop} {m m':Bool} {cs:List Nat} {L:List (Option (List Int))} {n:Int} {id off id' off' len:Nat} (h:off=cs.length):jY (H6 (PV.int .i64) m cs L) (.live m' [PV.int .i64 n]) id off id' off' len C=((m'=true→m=true)∧off'=0∧len=1∧id'≠id∧C ⟨.p .any,[(id',.dead),(id,iy (PV.int .i64) m (cs++[L.length]) (L++[some [n]]))],[id,id']⟩):=JP (l:=[n]) h
def pK:FuncId→List Bool:=fun f=>if f=4294967297 then[true,false,false,false]else[]
theorem BT {f:FuncId}:pK f=if f=4294967297 then[true,false,false,false]else[]:=_root_.id rfl
theorem y4:fJ pK=false∧ga pK=true∧f9 pK=false∧f8 pK=false∧gb pK=false:=⟨rfl,rfl,rfl,rfl,rfl⟩
attribute [go_sem] BT y4
theorem fB {m0:Bool} (p:List Int) (hl:p.length≤1048576) (hp:ae p=true):Fun Tryz.prog 61 [(.sl (.lent m0) (List.map (PV.int .i64) (p)))] [(.dl (List.map (List.map (PV.int .i64)) ((aX p p.length).1))),(.dl (List.map (List.map (PV.int .i64)) ((aX p p.length).2))),(.bool (true))]:=by
 refine fO pK [2,3,4] Tryz.func61 ?_
 have cE1:= @ao;have cE2:= @aW;have cD1:=gY [false,false,false,false,false,false,false,false,false,false,false,false,false,false,true,true] [];have cD2:=gY [false,false,false,false,false,false,false,false,false,true,true,false,false,false,false,false,false,true,true,false,true,false,true] [(0,9),(1,9),(2,9),(3,9),(4,9),(5,9),(6,9),(7,9),(0,10),(1,10),(2,10),(3,10),(9,11),(10,11),(9,12),(10,12),(9,13),(10,13),(9,14),(10,14),(9,15),(10,15),(9,16),(10,16),(0,17),(1,17),(2,17),(3,17),(4,17),(5,17),(6,17),(7,17),(8,17),(9,17),(10,17),(11,17),(12,17),(13,17),(14,17),(0,18),(1,18),(2,18),(3,18),(2,20),(3,20)]
 have h8:p.length≤8:=by simp[ae]at hp;exact hp.1
 have hnd:p.Nodup:=(permB_iff.1 (by simp[ae]at hp;exact hp.2)).2
 refine ax @hp ?_
 all_goals try(apply ai;repeat' first|exact ah|apply aa|(apply ak;intro zb hc)|(apply aj;intro zb)|intro j')<;>try apply al
 refine an (fun ms1 S1=>∃(k:Nat) (cs:List Nat) (L:List (Option (List Int))) (cb:List Nat) (N:List (Option (List Int))),S1.e 0=.p (.sl (.lent m0) (List.map (PV.int .i64) (p)))∧GwnL (S1.e 5) S1.h S1.n (PV.int .i64) (cs) (L)∧GwnL (S1.e 6) S1.h S1.n (PV.int .i64) (cb) (N)∧S1.e 16=.p (.sl (.lent m0) (List.map (PV.int .i64) (p)))∧S1.e 17=.p (.int .i64 (p.length))∧S1.e 18=.p (.int .i64 (k))∧(k≤p.length)∧(Tb cs L (aX p k).1)∧(Tb cb N (aX p k).2)∧NId (S1.e 6) (S1.e 5)∧ms1=p.length - k) ((fun(k:Nat) (cs:List Nat) (L:List (Option (List Int))) (cb:List Nat) (N:List (Option (List Int)))=>p.length - k) (0) ([]) ([]) ([]) ([])) ?_ ⟨0,[],[],[],[],dC trivial ?_⟩
 all_goals try(apply ai;repeat' first|exact ah|apply aa|(apply ak;intro zb hc)|(apply aj;intro zb)|intro j')<;>try apply al
 rintro ms1 S1 ⟨k,cs,L,cb,N,h1_0,o1_5,o1_6,h1_16,h1_17,h1_18,c1_0,c1_1,c1_2,u1_0,hm1⟩
 obtain⟨i1_5,h1_5,b1_5,l1_5⟩:=o1_5.out
 obtain⟨i1_6,h1_6,b1_6,l1_6⟩:=o1_6.out
 have k1_0:=(u1_0).out h1_6 h1_5
 have ni1_5:=aG (x:=i1_5) (n:=S1.n)
 have ni1_6:=aG (x:=i1_6) (n:=S1.n)
 have di1_5i1_6:=cQ (x:=i1_5) (y:=i1_6)
 have fL1:=(aa h1_0 (aa h1_16 (aa h1_17 (aa h1_18 (aa h1_5 (aa b1_5 (aa h1_6 (aa b1_6 (aa ni1_5 (aa ni1_6 di1_5i1_6))))))))))
 ·obtain⟨i1,i2,i3⟩:=tH (p:=p) (k:=k)
  have i4:=jp (p:=p) (k:=k)
  by_cases hk:k<p.length
  ·have q1:=ji (T:=(aX p k).1) (n:=p.getD k 0)
   have q2:aX p (k+1)=((bR (aX p k).1 (p.getD k 0)).1,if(bR (aX p k).1 (p.getD k 0)).2=(aX p k).2.length then(aX p k).2++[[(k:Int)+1]]else(aX p k).2.set (bR (aX p k).1 (p.getD k 0)).2 ((aX p k).2.getD (bR (aX p k).1 (p.getD k 0)).2 []++[(k:Int)+1])):=rfl
   obtain⟨n1,n2⟩:=GI hnd hk
   generalize hA:(aX p k).1=TA at*
   generalize hB:(aX p k).2=TB at*
   obtain⟨n,hn⟩:∃n,p.getD k 0=n:=⟨_,rfl⟩
   rw[hn]at q1 q2 n2
   have lb:=c1_2.len
   have la:=c1_1.len
   refine ax (aa fL1 @hn) ?_
   all_goals try(apply ai;repeat' first|exact ah|apply aa|(apply ak;intro zb hc)|(apply aj;intro zb)|intro j')<;>try apply al
   refine an (fun ms2 S2=>∃(r:Nat) (U:List (List Int)) (M:List (Option (List Int))) (v:Int),S2.e 0=.p (.sl (.lent m0) (List.map (PV.int .i64) (p)))∧GwnL (S2.e 5) S2.h S2.n (PV.int .i64) (cs) (M)∧GwnL (S2.e 6) S2.h S2.n (PV.int .i64) (cb) (N)∧S2.e 7=.p (.int .i64 (k))∧PtrL (S2.e 8) S2.h S2.n (.live false [.int .i64 v])∧S2.e 9=.p (.int .i64 (r))∧S2.e 16=.p (.sl (.lent m0) (List.map (PV.int .i64) (p)))∧S2.e 17=.p (.int .i64 (p.length))∧S2.e 18=.p (.int .i64 (k))∧(r≤TA.length)∧(Tb cs M U)∧(U.length=TA.length)∧(U.drop r=TA.drop r)∧((bR TA n).1=U.take r++(bR (TA.drop r) v).1)∧((bR TA n).2=r+(bR (TA.drop r) v).2)∧((TA.drop r).flatten.Nodup)∧(v∉(TA.drop r).flatten)∧NId (S2.e 6) (S2.e 5)∧NId (mZ (S2.e 8)) (S2.e 5)∧NId (mZ (S2.e 8)) (S2.e 6)∧S1.n≤S2.n∧ms2=TA.length - r) ((fun(r:Nat) (U:List (List Int)) (M:List (Option (List Int))) (v:Int)=>TA.length - r) (0) (TA) (L) (n)) ?_ ⟨0,TA,L,n,dC fL1 ?_⟩
   all_goals try(apply ai;repeat' first|exact ah|apply aa|(apply ak;intro zb hc)|(apply aj;intro zb)|intro j')<;>try apply al
   rintro ms2 S2 ⟨r,U,M,v,h2_0,o2_5,o2_6,h2_7,o2_8,h2_9,h2_16,h2_17,h2_18,c2_0,c2_1,c2_2,c2_3,c2_4,c2_5,c2_6,c2_7,u2_0,u2_1,u2_2,u2_3,hm2⟩
   obtain⟨i2_5,h2_5,b2_5,l2_5⟩:=o2_5.out
   obtain⟨i2_6,h2_6,b2_6,l2_6⟩:=o2_6.out
   obtain⟨i2_8,h2_8,b2_8,l2_8⟩:=o2_8.out
   have k2_0:=(u2_0).out h2_6 h2_5
   have k2_1:=(u2_1).out (cO h2_8) h2_5
   have k2_2:=(u2_2).out (cO h2_8) h2_6
   have ni2_5:=aG (x:=i2_5) (n:=S2.n)
   have ni2_6:=aG (x:=i2_6) (n:=S2.n)
   have ni2_8:=aG (x:=i2_8) (n:=S2.n)
   have di2_5i2_6:=cQ (x:=i2_5) (y:=i2_6)
   have di2_5i2_8:=cQ (x:=i2_5) (y:=i2_8)
   have di2_6i2_8:=cQ (x:=i2_6) (y:=i2_8)
   have fL2:=(aa h2_0 (aa h2_7 (aa h2_9 (aa h2_16 (aa h2_17 (aa h2_18 (aa h2_5 (aa b2_5 (aa h2_6 (aa b2_6 (aa h2_8 (aa b2_8 (aa ni2_5 (aa ni2_6 (aa ni2_8 (aa di2_5i2_6 (aa di2_5i2_8 di2_6i2_8)))))))))))))))))
   ·by_cases hr:r<TA.length
    ·have d1:TA.drop r=U.getD r []::TA.drop (r+1):=by
      rw[←c2_3,sx (by omega),show U.drop (r+1)=TA.drop (r+1)by rw[←List.drop_drop,←List.drop_drop,c2_3]]
     obtain⟨row,hrow⟩:∃row,U.getD r []=row:=⟨_,rfl⟩
     rw[hrow]at d1
     have d2:row.length≤k:=i2 _ (List.mem_of_mem_drop (i:=r) (by rw[d1];exact List.mem_cons_self))
     have e2:=c2_1.at_ r (by omega)
     rw[hrow]at e2
     rw[d1,List.flatten_cons]at c2_6 c2_7
     have nv:v∉row:=fun q=>c2_7 (List.mem_append.2 (.inl q))
     have ix:=yp (i:=0) nv
     have s3:=o9 (n:=v) (l:=row)
     have c1:=aW (m0:=true) row 115 [.pc [.int .i64 v]] (fun x=>decide (v<x)) (by omega) (fun x _=>k7 x v)
     by_cases he:fstN v row=row.length
     ·rw[if_pos he]at ix
      rw[ix]at c1
      have p1:bR (TA.drop r) v=((row++[v])::TA.drop (r+1),0):=by rw[d1,bR,if_pos he]
      rw[p1]at c2_4 c2_5
      have f0:(r=cs.length)=False:=eq_false (by omega)
      have e3:=c1_2.at_ r (by omega)
      have e4:=i3 (TB.getD r []) (ar (by omega))
      have p2:(bR TA n).1=U.set r (row++[v]):=by
       rw[c2_4,JM (by omega),show U.drop (r+1)=TA.drop (r+1)by rw[←List.drop_drop,←List.drop_drop,c2_3]]
      have p3:=lY (i:=r) (l:=row++[v]) c2_1 (by omega)
      have p4:=lY (i:=r) (l:=TB.getD r []++[(k:Int)+1]) c1_2 (by omega)
      have p5:(bR TA n).2=r:=by rw[c2_5];rfl
      rw[p2,p5,if_neg (by omega)]at q2
      have cE1:= @c1;have cE2:= @ao;have cE3:= @aW
      refine ax (aa fL2 (aa @e2 (aa @e3 @f0))) ?_
      all_goals try(apply ai;repeat' first|exact ah|apply aa|(apply ak;intro zb hc)|(apply aj;intro zb)|intro j')<;>try apply al
      focus
       refine am ((fun(k:Nat) (cs:List Nat) (L:List (Option (List Int))) (cb:List Nat) (N:List (Option (List Int)))=>p.length - k) (k+1) (cs.set r (M.set (cs.getD r 0) none).length) (M.set (cs.getD r 0) none++[some (row++[v])]) (cb.set r (N.set (cb.getD r 0) none).length) (N.set (cb.getD r 0) none++[some (TB.getD r []++[(k:Int)+1])])) (dC fL2 ?_) ⟨k+1,cs.set r (M.set (cs.getD r 0) none).length,M.set (cs.getD r 0) none++[some (row++[v])],cb.set r (N.set (cb.getD r 0) none).length,N.set (cb.getD r 0) none++[some (TB.getD r []++[(k:Int)+1])],dC fL2 ?_⟩
       all_goals try(apply ai;repeat' first|exact ah|apply aa|(apply ak;intro zb hc)|(apply aj;intro zb)|intro j')<;>try apply al
      all_goals first|(rw[q2];exact p3)|(rw[q2];exact p4)|trace_state
     ·rw[if_neg he]at ix
      rw[ix]at c1
      have p1:bR (TA.drop r) v=(row.set (fstN v row) v::(bR (TA.drop (r+1)) (row.getD (fstN v row) 0)).1,(bR (TA.drop (r+1)) (row.getD (fstN v row) 0)).2+1):=by rw[d1,bR,if_neg he]
      rw[p1]at c2_4 c2_5
      have e5:((0:Nat)+(fstN v row:Int)).toNat=fstN v row:=by omega
      have e6:((0:Int)+(fstN v row:Int)).toNat=fstN v row:=by omega
      have p3:=JN (i:=r) (l:=row.set (fstN v row) v) c2_1 (by omega)
      have nd2:=List.nodup_append.1 c2_6
      have hmem:row.getD (fstN v row) 0∈row:=ar (by omega)
      have cE1:= @c1;have cE2:= @ao;have cE3:= @aW
      refine ax (aa fL2 (aa @e2 (aa @e5 @e6))) ?_
      all_goals try(apply ai;repeat' first|exact ah|apply aa|(apply ak;intro zb hc)|(apply aj;intro zb)|intro j')<;>try apply al
      focus
       refine am ((fun(r:Nat) (U:List (List Int)) (M:List (Option (List Int))) (v:Int)=>TA.length - r) (r+1) (U.set r (row.set (fstN v row) v)) (M.set (cs.getD r 0) (some (row.set (fstN v row) v))) (row.getD (fstN v row) 0)) (dC fL2 ?_) ⟨r+1,U.set r (row.set (fstN v row) v),M.set (cs.getD r 0) (some (row.set (fstN v row) v)),row.getD (fstN v row) 0,dC fL2 ?_⟩
       all_goals try(apply ai;repeat' first|exact ah|apply aa|(apply ak;intro zb hc)|(apply aj;intro zb)|intro j')<;>try apply al
      all_goals first|exact p3|exact nd2.2.1|(intro q;exact nd2.2.2 _ hmem _ q rfl)|(rw[IN,←List.drop_drop,←List.drop_drop,c2_3];done)|(rw[PT (by omega),c2_4];simp;done)|(rw[c2_5];omega)|trace_state
    ·have p1:bR (TA.drop r) v=([[v]],0):=by rw[List.drop_of_length_le (by omega),bR]
     rw[p1]at c2_4 c2_5
     have f0:(r=cs.length)=True:=eq_true (by omega)
     have hr1:r=cs.length:=by omega
     have hr2:r=cb.length:=by omega
     have l1:∀{m L id C},rE (H6 (PV.int .i64) m cs L) id r C=C ⟨.p (.sl .own []),[],[id]⟩:=fun {m L id C}=>I2 hr1
     have l2:∀{m L id C},rE (H6 (PV.int .i64) m cb L) id r C=C ⟨.p (.sl .own []),[],[id]⟩:=fun {m L id C}=>I2 hr2
     have g1:=fun {m m' L n id id' off' len C}=>Bm (m:=m) (m':=m') (L:=L) (n:=n) (id:=id) (id':=id') (off':=off') (len:=len) (C:=C) hr1
     have g2:=fun {m m' L n id id' off' len C}=>Bm (m:=m) (m':=m') (L:=L) (n:=n) (id:=id) (id':=id') (off':=off') (len:=len) (C:=C) hr2
     have p2:(bR TA n).1=U++[[v]]:=by rw[c2_4,List.take_of_length_le (by omega)]
     have p3:=sU (l:=[v]) c2_1
     have p4:=sU (l:=[(k:Int)+1]) c1_2
     have p5:(bR TA n).2=TB.length:=by rw[c2_5];simp;omega
     rw[p2,p5,if_pos rfl]at q2
     have cE1:= @ao;have cE2:= @aW;have cE3:=trivial
     refine ax (aa fL2 (aa @f0 (aa @l1 (aa @l2 (aa @g1 @g2))))) ?_
     all_goals try(apply ai;repeat' first|exact ah|apply aa|(apply ak;intro zb hc)|(apply aj;intro zb)|intro j')<;>try apply al
     focus
      refine am ((fun(k:Nat) (cs:List Nat) (L:List (Option (List Int))) (cb:List Nat) (N:List (Option (List Int)))=>p.length - k) (k+1) (cs++[M.length]) (M++[some [v]]) (cb++[N.length]) (N++[some [(k:Int)+1]])) (dC fL2 ?_) ⟨k+1,cs++[M.length],M++[some [v]],cb++[N.length],N++[some [(k:Int)+1]],dC fL2 ?_⟩
      all_goals try(apply ai;repeat' first|exact ah|apply aa|(apply ak;intro zb hc)|(apply aj;intro zb)|intro j')<;>try apply al
     all_goals first|(rw[q2];exact p3)|(rw[q2];exact p4)|trace_state
   all_goals first|exact c1_1|exact n1|exact n2|(simp;done)|trace_state
  ·obtain rfl:k=p.length:=by omega
   have cE1:= @ao;have cE2:= @aW;have cE3:=trivial
   refine ax fL1 ?_
   all_goals try(apply ai;repeat' first|exact ah|apply aa|(apply ak;intro zb hc)|(apply aj;intro zb)|intro j')<;>try apply al
   refine yD c1_1 (fun h=>by cases h) rfl c1_1.len ?_
   rw[I9]
   simp only[cW,UF,b1_6]
   refine yD c1_2 (fun h=>by cases h) rfl c1_2.len ?_
   simp only[FL,fin,dt,F0,List.nil_append,List.cons_append,List.append_nil,true_and]
   refine List.Pairwise.cons (fun q hq=> ?_) (List.pairwise_singleton _ _)
   rw[List.mem_singleton]at hq
   subst hq
   exact .inl (show i1_5≠i1_6 by omega)
 all_goals exact Tb.nil
variable [TabA]
omit [TabA]in
theorem sd {p:List Int}:∀{k:Nat},(∀l∈(aX p k).2,∀x∈l,1≤x∧x≤(k:Int))
 |0=>by simp[aX]
 |k+1=>by
  have ih:=sd (p:=p) (k:=k)
  have hlen:=jp (p:=p) (k:=k)
  have g:=ji (T:=(aX p k).1) (n:=p.getD k 0)
  rw[aX]
  simp only[]
  intro l hl x hx
  split at hl
  ·rcases List.mem_append.1 hl with q|q
   ·have:=ih l q x hx;omega
   ·rw[List.mem_singleton]at q;subst q
    rw[List.mem_singleton]at hx;omega
  ·rcases List.mem_or_eq_of_mem_set hl with q|q
   ·have:=ih l q x hx;omega
   ·subst q
    rcases List.mem_append.1 hx with q|q
    ·have:=ih _ (ar (by omega)) x q;omega
    ·rw[List.mem_singleton]at q;omega
omit [TabA]in
theorem mb {B:Nat}:∀{l:List Nat},(∀x∈l,x≤B)→mc l≤B*l.length
 |[],_=>by simp[mc]
 |x::l,h=>by
  have h1:=h x List.mem_cons_self
  have h2:=mb fun y hy=>h y (List.mem_cons_of_mem _ hy)
  rw[mc,List.length_cons,Nat.mul_add,Nat.mul_one];omega
omit [TabA]in
theorem qo {p:List Int} (hp:ae p=true):(aX p p.length).1.length≤8∧(aX p p.length).2.length≤8∧(∀l∈(aX p p.length).1,l.length≤8)∧(∀l∈(aX p p.length).2,l.length≤8)∧
  mc ((aX p p.length).1.map List.length)≤64∧mc ((aX p p.length).2.map List.length)≤64∧(∀l∈(aX p p.length).1,∀x∈l,0≤x∧x≤8)∧(∀l∈(aX p p.length).2,∀x∈l,0≤x∧x≤8):=by
 have h8:p.length≤8:=by simp[ae]at hp;exact hp.1
 have hq:aU p=true:=by simp[ae]at hp;exact hp.2
 obtain⟨h1,h2,h3⟩:=tH (p:=p) (k:=p.length)
 have h4:=jp (p:=p) (k:=p.length)
 have hperm:=nC (p:=p) (k:=p.length) (Nat.le_refl _)
 refine⟨by omega,by omega,fun l hl=>by have:=h2 l hl;omega,fun l hl=>by have:=h3 l hl;omega, ?_, ?_,fun l hl x hx=> ?_,fun l hl x hx=> ?_⟩
 ·have:=mb (B:=8) (l:=(aX p p.length).1.map List.length) (fun x hx=>by
   obtain⟨l,hl,rfl⟩:=List.mem_map.1 hx
   have:=h2 l hl;omega)
  rw[List.length_map]at this;omega
 ·have:=mb (B:=8) (l:=(aX p p.length).2.map List.length) (fun x hx=>by
   obtain⟨l,hl,rfl⟩:=List.mem_map.1 hx
   have:=h3 l hl;omega)
  rw[List.length_map]at this;omega
 ·have hm:x∈(aX p p.length).1.flatten:=List.mem_flatten.2 ⟨l,hl,hx⟩
  have:=(permB_iff.1 hq).1 x (List.mem_of_mem_take (hperm.subset hm));omega
 ·have:=sd (p:=p) l hl x hx;omega
def uo:FuncId→List Bool:=fun f=>if f=4294967297 then[true,false,false,false]else[]
theorem EY {f:FuncId}:uo f=if f=4294967297 then[true,false,false,false]else[]:=_root_.id rfl
theorem AT:fJ uo=false∧ga uo=true∧f9 uo=false∧f8 uo=false∧gb uo=false:=⟨rfl,rfl,rfl,rfl,rfl⟩
attribute [go_sem] EY AT
theorem fm {m0:Bool} (p:List Int) (hl:p.length≤1048576) (hp:ae p=true):Fun Tryz.prog 62 [(.sl (.lent m0) (List.map (PV.int .i64) (p)))] [(.dl (List.map (List.map (PV.int .i64)) ((aX p p.length).1))),(.dl (List.map (List.map (PV.int .i64)) ((aX p p.length).2))),(.bool (true))]:=by
 refine fO uo [2,3,4] Tryz.func62 ?_
 have cE1:= @aq;have cE2:= @aM
 have h8:p.length≤8:=by simp[ae]at hp;exact hp.1
 refine ax @hp ?_
 all_goals try(apply ai;repeat' first|exact ah|apply aa|(apply ak;intro zb hc)|(apply aj;intro zb)|intro j')<;>try apply al
theorem d5 {m0:Bool} (p:List Int) (hl:p.length≤1048576) (hp:ae p=false):Fun Tryz.prog 62 [(.sl (.lent m0) (List.map (PV.int .i64) (p)))] [(.dl (List.map (List.map (PV.int .i64)) (([]:List (List Int))))),(.dl (List.map (List.map (PV.int .i64)) (([]:List (List Int))))),(.bool (false))]:=by
 refine fO uo [2,3,4] Tryz.func62 ?_
 have cE1:= @aq;have cE2:= @aM
 refine ax @hp ?_
 all_goals try(apply ai;repeat' first|exact ah|apply aa|(apply ak;intro zb hc)|(apply aj;intro zb)|intro j')<;>try apply al
def wl:FuncId→List Bool:=fun f=>if f=4294967297 then[true,false,true,false]else[]
theorem EW {f:FuncId}:wl f=if f=4294967297 then[true,false,true,false]else[]:=_root_.id rfl
theorem AR:fJ wl=false∧ga wl=true∧f9 wl=false∧f8 wl=true∧gb wl=false:=⟨rfl,rfl,rfl,rfl,rfl⟩
attribute [go_sem] EW AR
theorem eg {m0:Bool} (p:List Int) (hl:p.length≤1048576) (hp:ae p=false):Fun Tryz.prog 61 [(.sl (.lent m0) (List.map (PV.int .i64) (p)))] [(.dl (List.map (List.map (PV.int .i64)) (([]:List (List Int))))),(.dl (List.map (List.map (PV.int .i64)) (([]:List (List Int))))),(.bool (false))]:=by
 refine fO wl [2,3,4] Tryz.func61 ?_
 have cE1:= @ao;have cE2:= @aW;have cD1:=gY [false,false,false,false,false,false,false,false,false,false,false,false,false,false,true,true] [];have cD2:=gY [false,false,false,false,false,false,false,false,false,true,true,false,false,false,false,false,false,true,true,false,true,false,true] [(0,9),(1,9),(2,9),(3,9),(4,9),(5,9),(6,9),(7,9),(0,10),(1,10),(2,10),(3,10),(9,11),(10,11),(9,12),(10,12),(9,13),(10,13),(9,14),(10,14),(9,15),(10,15),(9,16),(10,16),(0,17),(1,17),(2,17),(3,17),(4,17),(5,17),(6,17),(7,17),(8,17),(9,17),(10,17),(11,17),(12,17),(13,17),(14,17),(0,18),(1,18),(2,18),(3,18),(2,20),(3,20)]
 refine ax @hp ?_
 all_goals try(apply ai;repeat' first|exact ah|apply aa|(apply ak;intro zb hc)|(apply aj;intro zb)|intro j')<;>try apply al
def OR (p:List Int):List UInt8:=if ae p then(rq (aX p p.length).1++[32])++rq (aX p p.length).2 else[]
theorem dF {m0:Bool} (p:List Int) (hl:p.length≤1048576):Fun Tryz.prog 21 [(.sl (.lent m0) (List.map (PV.int .i64) (p)))] [(.str (OR p))]:=by
 by_cases hp:ae p=true
 ·obtain⟨a1,a2,a3,a4,a5,a6,a7,a8⟩:=qo hp
  have g1:∀l∈(aX p p.length).1,∀x∈l, -9223372036854775808≤x∧x≤9223372036854775807:=fun l hl x hx=>by have:=a7 l hl x hx;omega
  have g2:∀l∈(aX p p.length).2,∀x∈l, -9223372036854775808≤x∧x≤9223372036854775807:=fun l hl x hx=>by have:=a8 l hl x hx;omega
  have t1:=lZ g1
  have t2:=lZ g2
  have g3:∀l∈(aX p p.length).1,l.length≤1048576:=fun l hl=>by have:=a3 l hl;omega
  have g4:∀l∈(aX p p.length).2,l.length≤1048576:=fun l hl=>by have:=a4 l hl;omega
  have c2:=fun m:Bool=>fm (m0:=m) p hl hp
  rw[OR,if_pos hp]
  refine fO aR [2] Tryz.func21 ?_
  have cE1:= @d5;have cE2:= @fm;have cE3:= @bE
  have cE1:= @c2;have cE2:= @bE;have cE3:=trivial
  refine ax trivial ?_
  all_goals try(apply ai;repeat' first|exact ah|apply aa|(apply ak;intro zb hc)|(apply aj;intro zb)|intro j')<;>try apply al
  all_goals first|exact g1|exact g2|exact g3|exact g4|trace_state
 ·rw[Bool.not_eq_true]at hp
  have c2:=fun m:Bool=>d5 (m0:=m) p hl hp
  rw[OR,hp]
  refine fO aR [2] Tryz.func21 ?_
  have cE1:= @d5;have cE2:= @fm;have cE3:= @bE
  have cE1:= @c2;have cE2:= @bE;have cE3:=trivial
  refine ax trivial ?_
  all_goals try(apply ai;repeat' first|exact ah|apply aa|(apply ak;intro zb hc)|(apply aj;intro zb)|intro j')<;>try apply al
theorem dL {m0:Bool} (p:List Int) (hl:p.length≤1048576):Fun Tryz.prog 20 [(.sl (.lent m0) (List.map (PV.int .i64) (p)))] [(.str (OR p))]:=by
 by_cases hp:ae p=true
 ·obtain⟨a1,a2,a3,a4,a5,a6,a7,a8⟩:=qo hp
  have g1:∀l∈(aX p p.length).1,∀x∈l, -9223372036854775808≤x∧x≤9223372036854775807:=fun l hl x hx=>by have:=a7 l hl x hx;omega
  have g2:∀l∈(aX p p.length).2,∀x∈l, -9223372036854775808≤x∧x≤9223372036854775807:=fun l hl x hx=>by have:=a8 l hl x hx;omega
  have t1:=lZ g1
  have t2:=lZ g2
  have g3:∀l∈(aX p p.length).1,l.length≤1048576:=fun l hl=>by have:=a3 l hl;omega
  have g4:∀l∈(aX p p.length).2,l.length≤1048576:=fun l hl=>by have:=a4 l hl;omega
  have c2:=fun m:Bool=>fB (m0:=m) p hl hp
  rw[OR,if_pos hp]
  refine fO aR [2] Tryz.func20 ?_
  have cE1:= @eg;have cE2:= @fB;have cE3:= @bI
  have cE1:= @c2;have cE2:= @bI;have cE3:=trivial
  refine ax trivial ?_
  all_goals try(apply ai;repeat' first|exact ah|apply aa|(apply ak;intro zb hc)|(apply aj;intro zb)|intro j')<;>try apply al
  all_goals first|exact g1|exact g2|exact g3|exact g4|trace_state
 ·rw[Bool.not_eq_true]at hp
  have c2:=fun m:Bool=>eg (m0:=m) p hl hp
  rw[OR,hp]
  refine fO aR [2] Tryz.func20 ?_
  have cE1:= @eg;have cE2:= @fB;have cE3:= @bI
  have cE1:= @c2;have cE2:= @bI;have cE3:=trivial
  refine ax trivial ?_
  all_goals try(apply ai;repeat' first|exact ah|apply aa|(apply ak;intro zb hc)|(apply aj;intro zb)|intro j')<;>try apply al
end Go.Gl
namespace Go.Gl
open Go Go.Proofs
variable [Amb] [NoQ]
theorem jg (b:List UInt8) (hb:b.length≤1048576):∃p,Fun Tryz.prog 10 [.sl (.lent false) (b.map jW)] [.sl .own (List.map (PV.int .i64) p)]∧p.length≤1048576:=by
 obtain⟨s1,p,c1,hp⟩:=rt b ⟨0,oB b (min b.length 4000)⟩ hb
 refine⟨p, ?_,hp⟩
 refine fO fq [2] Tryz.func10 ?_
 have cE1:= @gF
 have cM1:= @c1
 refine ax trivial ?_
 all_goals try(apply ai;repeat' first|exact ah|apply aa|(apply ak;intro zb hc)|(apply aj;intro zb)|intro j')<;>try apply al
theorem jA (b:List UInt8) (hb:b.length≤1048576):∃p,Fun Tryz.prog 12 [.sl (.lent false) (b.map jW)] [.sl .own (List.map (PV.int .i64) p)]∧SmL p:=by
 obtain⟨s1,p,c1,hp⟩:=iU b ⟨0,oB b (min b.length 4000)⟩ hb
 refine⟨p, ?_,hp⟩
 refine fO fq [2] Tryz.func12 ?_
 have cE1:= @gF
 have cM1:= @c1
 refine ax trivial ?_
 all_goals try(apply ai;repeat' first|exact ah|apply aa|(apply ak;intro zb hc)|(apply aj;intro zb)|intro j')<;>try apply al
def qi (b:List UInt8) (s:Cu):Nat→List (List Int)×Cu
 |0=>([],s)
 |k+1=>((qi b s k).1++[(jd b (fH b (qi b s k).2 5) (jL b (qi b s k).2 5).toNat).1],(jd b (fH b (qi b s k).2 5) (jL b (qi b s k).2 5).toNat).2)
theorem l3L_p {b:List UInt8} {s:Cu}:∀{k:Nat},(qi b s k).1.length=k∧∀l∈(qi b s k).1,l.length≤9
 |0=>by simp[qi]
 |k+1=>by
  obtain⟨h1,h2⟩:=l3L_p (b:=b) (s:=s) (k:=k)
  have q:=it (b:=b) (s:=(qi b s k).2) (n:=5)
  rw[qi]
  refine⟨by simp[h1],fun l hl=> ?_⟩
  rcases List.mem_append.1 hl with g|g
  ·exact h2 l g
  ·rw[List.mem_singleton]at g;subst g;rw[kU];omega
theorem rv (b:List UInt8) (s:Cu) (hb:b.length≤1048576):∃s' L,CallT Tryz.prog false 54 [.mu true (bX b s)] [some (bX b s')] [.sl .own (List.map (bt false) L)]∧L.length≤5∧∀l∈L,l.length≤9:=by
 have q:=it (b:=b) (s:=s) (n:=5)
 obtain⟨N,hN⟩:∃N:Nat,jL b s 5=(N:Int):=Int.eq_ofNat_of_zero_le (by omega)
 rw[hN]at q
 generalize hs:fH b s 5=s0 at*
 obtain⟨w1,w2⟩:=l3L_p (b:=b) (s:=s0) (k:=N)
 obtain⟨y,hy⟩:∃y,jL b (qi b s0 N).2 12=y:=⟨_,rfl⟩
 by_cases h:0<N∧y=0
 ·obtain⟨h0,rfl⟩:=h
  obtain⟨s1,p,c1,hp⟩:=iU b (fH b (qi b s0 N).2 12) hb
  refine⟨s1,(qi b s0 N).1.set 0 p, ?_,by rw[List.length_set];omega,fun l hl=> ?_⟩
  ·refine fX fq [2] Tryz.func54 ?_
   have cM1:= @aE;have cM2:= @dn;have cM3:= @aP
   refine ax (aa @hN @hs) ?_
   all_goals try(apply ai;repeat' first|exact ah|apply aa|(apply ak;intro zb hc)|(apply aj;intro zb)|intro j')<;>try apply al
   refine an (fun ms1 S1=>∃(k:Nat),S1.e 0=.ptr 0 0∧S1.h 0=.live true (bX b (qi b s0 k).2)∧0<S1.n∧OwnL (S1.e 3) S1.h S1.n (bt false) (((qi b s0 k).1).length) ((qi b s0 k).1)∧S1.e 4=.p (.int .i64 (N))∧S1.e 5=.p (.int .i64 (k))∧(k≤N)∧NId (S1.e 3) (.ref 0 0 0)∧ms1=N - k) ((fun(k:Nat)=>N - k) (0)) ?_ ⟨0,dC trivial ?_⟩
   all_goals try(apply ai;repeat' first|exact ah|apply aa|(apply ak;intro zb hc)|(apply aj;intro zb)|intro j')<;>try apply al
   rintro ms1 S1 ⟨k,h1_0,b1_0,l1_0,o1_3,h1_4,h1_5,c1_0,u1_0,hm1⟩
   obtain⟨i1_3,h1_3,b1_3,l1_3⟩:=o1_3.out
   have k1_0:=(u1_0).out h1_3 rfl
   have ni1_3:=aG (x:=i1_3) (n:=S1.n)
   have n0:=aG (x:=0) (n:=S1.n)
   have di1_30:=cQ (x:=i1_3) (y:=0)
   have fL1:=(aa h1_0 (aa b1_0 (aa h1_4 (aa h1_5 (aa h1_3 (aa b1_3 (aa ni1_3 (aa n0 di1_30))))))))
   ·obtain⟨v1,v2⟩:=l3L_p (b:=b) (s:=s0) (k:=k)
    have qk:=it (b:=b) (s:=(qi b s0 k).2) (n:=5)
    by_cases hk:k<N
    ·refine ax fL1 ?_
     all_goals try(apply ai;repeat' first|exact ah|apply aa|(apply ak;intro zb hc)|(apply aj;intro zb)|intro j')<;>try apply al
     focus
      refine am ((fun(k:Nat)=>N - k) (k+1)) (dC fL1 ?_) ⟨k+1,dC fL1 ?_⟩
      all_goals try(apply ai;repeat' first|exact ah|apply aa|(apply ak;intro zb hc)|(apply aj;intro zb)|intro j')<;>try apply al
     all_goals(first|(rw[v1,l3L_p.1];done)|skip)
    ·obtain rfl:k=N:=by omega
     have hN0:((0:Int)<(k:Int))=True:=eq_true (by omega)
     have cM4:= @c1
     refine ax (aa fL1 (aa @hy @hN0)) ?_
     all_goals try(apply ai;repeat' first|exact ah|apply aa|(apply ak;intro zb hc)|(apply aj;intro zb)|intro j')<;>try apply al
     all_goals(first|(exact List.take_of_length_le (by simp))|skip)
  ·rcases List.mem_or_eq_of_mem_set hl with g|g
   ·exact w2 l g
   ·rw[g];exact hp.len
 ·by_cases h0:0<N
  ·have f0:(y=0)=False:=eq_false fun e=>h ⟨h0,e⟩
   refine⟨fH b (qi b s0 N).2 12,(qi b s0 N).1, ?_,by omega,w2⟩
   refine fX fq [2] Tryz.func54 ?_
   have cM1:= @aE;have cM2:= @dn;have cM3:= @aP
   refine ax (aa @hN @hs) ?_
   all_goals try(apply ai;repeat' first|exact ah|apply aa|(apply ak;intro zb hc)|(apply aj;intro zb)|intro j')<;>try apply al
   refine an (fun ms2 S2=>∃(k:Nat),S2.e 0=.ptr 0 0∧S2.h 0=.live true (bX b (qi b s0 k).2)∧0<S2.n∧OwnL (S2.e 3) S2.h S2.n (bt false) (((qi b s0 k).1).length) ((qi b s0 k).1)∧S2.e 4=.p (.int .i64 (N))∧S2.e 5=.p (.int .i64 (k))∧(k≤N)∧NId (S2.e 3) (.ref 0 0 0)∧ms2=N - k) ((fun(k:Nat)=>N - k) (0)) ?_ ⟨0,dC trivial ?_⟩
   all_goals try(apply ai;repeat' first|exact ah|apply aa|(apply ak;intro zb hc)|(apply aj;intro zb)|intro j')<;>try apply al
   rintro ms2 S2 ⟨k,h2_0,b2_0,l2_0,o2_3,h2_4,h2_5,c2_0,u2_0,hm2⟩
   obtain⟨i2_3,h2_3,b2_3,l2_3⟩:=o2_3.out
   have k2_0:=(u2_0).out h2_3 rfl
   have ni2_3:=aG (x:=i2_3) (n:=S2.n)
   have n0:=aG (x:=0) (n:=S2.n)
   have di2_30:=cQ (x:=i2_3) (y:=0)
   have fL2:=(aa h2_0 (aa b2_0 (aa h2_4 (aa h2_5 (aa h2_3 (aa b2_3 (aa ni2_3 (aa n0 di2_30))))))))
   ·obtain⟨v1,v2⟩:=l3L_p (b:=b) (s:=s0) (k:=k)
    have qk:=it (b:=b) (s:=(qi b s0 k).2) (n:=5)
    by_cases hk:k<N
    ·refine ax fL2 ?_
     all_goals try(apply ai;repeat' first|exact ah|apply aa|(apply ak;intro zb hc)|(apply aj;intro zb)|intro j')<;>try apply al
     focus
      refine am ((fun(k:Nat)=>N - k) (k+1)) (dC fL2 ?_) ⟨k+1,dC fL2 ?_⟩
      all_goals try(apply ai;repeat' first|exact ah|apply aa|(apply ak;intro zb hc)|(apply aj;intro zb)|intro j')<;>try apply al
     all_goals(first|(rw[v1,l3L_p.1];done)|skip)
    ·obtain rfl:k=N:=by omega
     have hN0:((0:Int)<(k:Int))=True:=eq_true (by omega)
     refine ax (aa fL2 (aa @hy (aa @f0 @hN0))) ?_
     all_goals try(apply ai;repeat' first|exact ah|apply aa|(apply ak;intro zb hc)|(apply aj;intro zb)|intro j')<;>try apply al
     all_goals(first|(exact List.take_of_length_le (by simp))|skip)
  ·obtain rfl:N=0:=by omega
   refine⟨s0,[], ?_,by decide,fun l hl=>by cases hl⟩
   refine fX fq [2] Tryz.func54 ?_
   have cM1:= @aE;have cM2:= @dn;have cM3:= @aP
   refine ax (aa @hN @hs) ?_
   all_goals try(apply ai;repeat' first|exact ah|apply aa|(apply ak;intro zb hc)|(apply aj;intro zb)|intro j')<;>try apply al
   refine an (fun ms3 S3=>∃(u:Nat),S3.e 0=.ptr 0 0∧S3.h 0=.live true (bX b s0)∧0<S3.n∧OwnL (S3.e 3) S3.h S3.n (bt false) ((([]:List (List Int))).length) (([]:List (List Int)))∧S3.e 4=.p (.int .i64 (0))∧S3.e 5=.p (.int .i64 (0))∧NId (S3.e 3) (.ref 0 0 0)∧ms3=u) ((fun(u:Nat)=>u) (0)) ?_ ⟨0,dC trivial ?_⟩
   all_goals try(apply ai;repeat' first|exact ah|apply aa|(apply ak;intro zb hc)|(apply aj;intro zb)|intro j')<;>try apply al
   rintro ms3 S3 ⟨u,h3_0,b3_0,l3_0,o3_3,h3_4,h3_5,u3_0,hm3⟩
   obtain⟨i3_3,h3_3,b3_3,l3_3⟩:=o3_3.out
   have k3_0:=(u3_0).out h3_3 rfl
   have ni3_3:=aG (x:=i3_3) (n:=S3.n)
   have n0:=aG (x:=0) (n:=S3.n)
   have di3_30:=cQ (x:=i3_3) (y:=0)
   have fL3:=(aa h3_0 (aa b3_0 (aa h3_4 (aa h3_5 (aa h3_3 (aa b3_3 (aa ni3_3 (aa n0 di3_30))))))))
   ·refine ax fL3 ?_
    all_goals try(apply ai;repeat' first|exact ah|apply aa|(apply ak;intro zb hc)|(apply aj;intro zb)|intro j')<;>try apply al
theorem j7 (b:List UInt8) (hb:b.length≤1048576):∃L,Fun Tryz.prog 11 [.sl (.lent false) (b.map jW)] [.sl .own (List.map (bt false) L)]∧L.length≤5∧∀l∈L,l.length≤9:=by
 obtain⟨s1,p,c1,hp⟩:=rv b ⟨0,oB b (min b.length 4000)⟩ hb
 refine⟨p, ?_,hp⟩
 refine fO fq [2] Tryz.func11 ?_
 have cE1:= @gF
 have cM1:= @c1
 refine ax trivial ?_
 all_goals try(apply ai;repeat' first|exact ah|apply aa|(apply ak;intro zb hc)|(apply aj;intro zb)|intro j')<;>try apply al
theorem xV:∀{T:List (List Int)} {n:Int},(∀l∈T,0<l.length)→∀l∈(bR T n).1,0<l.length
 |[],n,_=>by simp[bR]
 |l::T,n,h=>by
  have h0:=h l List.mem_cons_self
  rw[bR]
  split
  ·intro q hq
   rcases List.mem_cons.1 hq with e|g
   ·rw[e];simp
   ·exact h q (List.mem_cons_of_mem _ g)
  ·intro q hq
   rcases List.mem_cons.1 hq with e|g
   ·rw[e,List.length_set];exact h0
   ·exact xV (fun l hl=>h l (List.mem_cons_of_mem _ hl)) q g
theorem yl {p:List Int}:∀{k:Nat},(∀l∈(aX p k).1,0<l.length)∧∀l∈(aX p k).2,0<l.length
 |0=>by simp[aX]
 |k+1=>by
  obtain⟨h1,h2⟩:=yl (p:=p) (k:=k)
  rw[aX]
  refine⟨xV h1,fun l hl=> ?_⟩
  simp only at hl
  split at hl
  ·rcases List.mem_append.1 hl with q|q
   ·exact h2 l q
   ·rw[List.mem_singleton]at q;subst q;simp
  ·rcases List.mem_or_eq_of_mem_set hl with q|q
   ·exact h2 l q
   ·rw[q];simp
structure TbL (T:List (List Int)):Prop where
 len:T.length≤9
 row:∀l∈T,l.length≤8
 rg:∀l∈T,∀x∈l, -1≤x∧x≤10
theorem TbL.st {T:List (List Int)} {v:Int} (h:TbL T) (hv: -1≤v∧v≤10):TbL (T.set 0 ((T.getD 0 []).set 0 v)):=by
 refine⟨by rw[List.length_set];exact h.len,fun l hl=> ?_,fun l hl x hx=> ?_⟩
 ·rcases List.mem_or_eq_of_mem_set hl with g|g
  ·exact h.row l g
  ·by_cases h0:0<T.length
   ·rw[g,List.length_set];exact h.row _ (ar h0)
   ·rw[List.eq_nil_of_length_eq_zero (show T.length=0 by omega)]at hl;cases hl
 ·rcases List.mem_or_eq_of_mem_set hl with g|g
  ·exact h.rg l g x hx
  ·subst g
   rcases List.mem_or_eq_of_mem_set hx with g|g
   ·by_cases h0:0<T.length
    ·exact h.rg _ (ar h0) x g
    ·rw[List.eq_nil_of_length_eq_zero (show T.length=0 by omega)]at hl;cases hl
   ·omega
theorem TbL.ap {T:List (List Int)} (h:TbL T) (h8:T.length≤8):TbL (T++[[]]):=by
 refine⟨by rw[List.length_append,List.length_singleton];omega,fun l hl=> ?_,fun l hl x hx=> ?_⟩
 ·rcases List.mem_append.1 hl with g|g
  ·exact h.row l g
  ·rw[List.mem_singleton]at g;subst g;simp
 ·rcases List.mem_append.1 hl with g|g
  ·exact h.rg l g x hx
  ·rw[List.mem_singleton]at g;subst g;cases hx
theorem Ay:Blk.deep false [DC.row 0] [some []]=dk (PV.int .i64) false [[]]:=rfl
def fp:FuncId→List Bool:=fun f=>if f=152 then[true]else if f=110 then[true]else if f=108 then[true]else if f=112 then[true]else if f=56 then[true]else if f=4294967297 then[true,false,false,false]else[]
theorem BU {f:FuncId}:fp f=if f=152 then[true]else if f=110 then[true]else if f=108 then[true]else if f=112 then[true]else if f=56 then[true]else if f=4294967297 then[true,false,false,false]else[]:=_root_.id rfl
theorem y5:fJ fp=false∧ga fp=true∧f9 fp=false∧f8 fp=false∧gb fp=false:=⟨rfl,rfl,rfl,rfl,rfl⟩
attribute [go_sem] BU y5
theorem pB (b:List UInt8) (s:Cu) (hb:b.length≤1048576):∃s' T,CallT Tryz.prog false 56 [.mu true (bX b s)] [some (bX b s')] [.dl (List.map (List.map (PV.int .i64)) T)]∧TbL T:=by
 obtain⟨s1,p,c1,hp⟩:=ml b s hb
 obtain⟨a1,a2,a3,a4,a5,a6,a7,a8⟩:=qo hp
 have p8:=(ll hp).1
 obtain⟨n1,n2⟩:=yl (p:=p) (k:=p.length)
 have t1:TbL (aX p p.length).1:=⟨by omega,a3,fun l hl x hx=>by have:=a7 l hl x hx;omega⟩
 have t2:TbL (aX p p.length).2:=⟨by omega,a4,fun l hl x hx=>by have:=a8 l hl x hx;omega⟩
 have ci:=fun m0:Bool=>aM (m0:=m0) p p8
 generalize hA:(aX p p.length).1=A at*
 generalize hB:(aX p p.length).2=B at*
 obtain⟨x,hx⟩:∃x,jL b s1 2=x:=⟨_,rfl⟩
 generalize hs2:fH b s1 2=s2 at*
 by_cases h1:x=0
 ·subst h1
  by_cases h0:B.length=0
  ·obtain rfl:B=[]:=List.eq_nil_of_length_eq_zero h0
   obtain⟨z,hz⟩:∃z,jL b s2 14=z:=⟨_,rfl⟩
   by_cases h3:z=0
   ·subst h3
    obtain⟨T9,hT⟩:∃T9,([]:List (List Int))++[[]]=T9:=⟨_,rfl⟩
    refine⟨fH b s2 14,T9, ?_,hT▸t2.ap (by decide)⟩
    refine fX fp [2] Tryz.func56 ?_
    have cE1:= @aM;have cM1:= @aP;have cM2:= @aE;have cD1:=gY [false,false,false,false,true,false,true] [(0,4),(1,4),(2,4)]
    have cE1:= @ci;have cM3:= @c1
    refine ax (aa @hx (aa @hs2 (aa @hz @Ay))) ?_
    all_goals try(apply ai;repeat' first|exact ah|apply aa|(apply ak;intro zb hc)|(apply aj;intro zb)|intro j')<;>try apply al
    all_goals(first|(rw[←hT];rfl)|(rw[←hT];simp;done)|skip)
   ·have f3:(z=0)=False:=eq_false h3
    refine⟨fH b s2 14,[], ?_,t2⟩
    refine fX fp [2] Tryz.func56 ?_
    have cE1:= @aM;have cM1:= @aP;have cM2:= @aE;have cD1:=gY [false,false,false,false,true,false,true] [(0,4),(1,4),(2,4)]
    have cE1:= @ci;have cM3:= @c1
    refine ax (aa @hx (aa @hs2 (aa @hz @f3))) ?_
    all_goals try(apply ai;repeat' first|exact ah|apply aa|(apply ak;intro zb hc)|(apply aj;intro zb)|intro j')<;>try apply al
    all_goals(first|(rw[List.take_of_length_le (by simp)];done)|skip)
  ·have hn:=n2 _ (ar (l:=B) (i:=0) (d:=[]) (by omega))
   have hl0:((0:Int)<(B.length:Int))=True:=eq_true (by omega)
   obtain⟨y,hy⟩:∃y,jL b s2 12=y:=⟨_,rfl⟩
   generalize hs3:fH b s2 12=s3 at*
   by_cases h2:y=0
   ·subst h2
    have qv:=it (b:=b) (s:=s3) (n:=10)
    obtain⟨v,hv⟩:∃v,jL b s3 10=v:=⟨_,rfl⟩
    rw[hv]at qv
    generalize hs4:fH b s3 10=s4 at*
    obtain⟨z,hz⟩:∃z,jL b s4 14=z:=⟨_,rfl⟩
    by_cases h3:z=0
    ·subst h3
     refine⟨fH b s4 14,B.set 0 ((B.getD 0 []).set 0 v)++[[]], ?_,(t2.st (by omega)).ap (by rw[List.length_set];omega)⟩
     refine fX fp [2] Tryz.func56 ?_
     have cE1:= @aM;have cM1:= @aP;have cM2:= @aE;have cD1:=gY [false,false,false,false,true,false,true] [(0,4),(1,4),(2,4)]
     have cE1:= @ci;have cM3:= @c1
     refine ax (aa @hx (aa @hs2 (aa @hl0 (aa @hy (aa @hs3 (aa @hv (aa @hs4 (aa @hz @Ay)))))))) ?_
     all_goals try(apply ai;repeat' first|exact ah|apply aa|(apply ak;intro zb hc)|(apply aj;intro zb)|intro j')<;>try apply al
     all_goals(first|(rw[List.take_of_length_le (by simp)];done)|skip)
    ·have f3:(z=0)=False:=eq_false h3
     refine⟨fH b s4 14,B.set 0 ((B.getD 0 []).set 0 v), ?_,t2.st (by omega)⟩
     refine fX fp [2] Tryz.func56 ?_
     have cE1:= @aM;have cM1:= @aP;have cM2:= @aE;have cD1:=gY [false,false,false,false,true,false,true] [(0,4),(1,4),(2,4)]
     have cE1:= @ci;have cM3:= @c1
     refine ax (aa @hx (aa @hs2 (aa @hl0 (aa @hy (aa @hs3 (aa @hv (aa @hs4 (aa @hz @f3)))))))) ?_
     all_goals try(apply ai;repeat' first|exact ah|apply aa|(apply ak;intro zb hc)|(apply aj;intro zb)|intro j')<;>try apply al
     all_goals(first|(rw[List.take_of_length_le (by simp)];done)|skip)
   ·have f2:(y=0)=False:=eq_false h2
    obtain⟨z,hz⟩:∃z,jL b s3 14=z:=⟨_,rfl⟩
    by_cases h3:z=0
    ·subst h3
     refine⟨fH b s3 14,B++[[]], ?_,t2.ap a2⟩
     refine fX fp [2] Tryz.func56 ?_
     have cE1:= @aM;have cM1:= @aP;have cM2:= @aE;have cD1:=gY [false,false,false,false,true,false,true] [(0,4),(1,4),(2,4)]
     have cE1:= @ci;have cM3:= @c1
     refine ax (aa @hx (aa @hs2 (aa @hl0 (aa @hy (aa @f2 (aa @hs3 (aa @hz @Ay))))))) ?_
     all_goals try(apply ai;repeat' first|exact ah|apply aa|(apply ak;intro zb hc)|(apply aj;intro zb)|intro j')<;>try apply al
     all_goals(first|(rw[List.take_of_length_le (by simp)];done)|skip)
    ·have f3:(z=0)=False:=eq_false h3
     refine⟨fH b s3 14,B, ?_,t2⟩
     refine fX fp [2] Tryz.func56 ?_
     have cE1:= @aM;have cM1:= @aP;have cM2:= @aE;have cD1:=gY [false,false,false,false,true,false,true] [(0,4),(1,4),(2,4)]
     have cE1:= @ci;have cM3:= @c1
     refine ax (aa @hx (aa @hs2 (aa @hl0 (aa @hy (aa @f2 (aa @hs3 (aa @hz @f3))))))) ?_
     all_goals try(apply ai;repeat' first|exact ah|apply aa|(apply ak;intro zb hc)|(apply aj;intro zb)|intro j')<;>try apply al
     all_goals(first|(rw[List.take_of_length_le (by simp)];done)|skip)
 ·have f1:(x=0)=False:=eq_false h1
  by_cases h0:A.length=0
  ·obtain rfl:A=[]:=List.eq_nil_of_length_eq_zero h0
   obtain⟨z,hz⟩:∃z,jL b s2 14=z:=⟨_,rfl⟩
   by_cases h3:z=0
   ·subst h3
    obtain⟨T9,hT⟩:∃T9,([]:List (List Int))++[[]]=T9:=⟨_,rfl⟩
    refine⟨fH b s2 14,T9, ?_,hT▸t1.ap (by decide)⟩
    refine fX fp [2] Tryz.func56 ?_
    have cE1:= @aM;have cM1:= @aP;have cM2:= @aE;have cD1:=gY [false,false,false,false,true,false,true] [(0,4),(1,4),(2,4)]
    have cE1:= @ci;have cM3:= @c1
    refine ax (aa @hx (aa @f1 (aa @hs2 (aa @hz @Ay)))) ?_
    all_goals try(apply ai;repeat' first|exact ah|apply aa|(apply ak;intro zb hc)|(apply aj;intro zb)|intro j')<;>try apply al
    all_goals(first|(rw[←hT];rfl)|(rw[←hT];simp;done)|skip)
   ·have f3:(z=0)=False:=eq_false h3
    refine⟨fH b s2 14,[], ?_,t1⟩
    refine fX fp [2] Tryz.func56 ?_
    have cE1:= @aM;have cM1:= @aP;have cM2:= @aE;have cD1:=gY [false,false,false,false,true,false,true] [(0,4),(1,4),(2,4)]
    have cE1:= @ci;have cM3:= @c1
    refine ax (aa @hx (aa @f1 (aa @hs2 (aa @hz @f3)))) ?_
    all_goals try(apply ai;repeat' first|exact ah|apply aa|(apply ak;intro zb hc)|(apply aj;intro zb)|intro j')<;>try apply al
    all_goals(first|(rw[List.take_of_length_le (by simp)];done)|skip)
  ·have hn:=n1 _ (ar (l:=A) (i:=0) (d:=[]) (by omega))
   have hl0:((0:Int)<(A.length:Int))=True:=eq_true (by omega)
   obtain⟨y,hy⟩:∃y,jL b s2 12=y:=⟨_,rfl⟩
   generalize hs3:fH b s2 12=s3 at*
   by_cases h2:y=0
   ·subst h2
    have qv:=it (b:=b) (s:=s3) (n:=10)
    obtain⟨v,hv⟩:∃v,jL b s3 10=v:=⟨_,rfl⟩
    rw[hv]at qv
    generalize hs4:fH b s3 10=s4 at*
    obtain⟨z,hz⟩:∃z,jL b s4 14=z:=⟨_,rfl⟩
    by_cases h3:z=0
    ·subst h3
     refine⟨fH b s4 14,A.set 0 ((A.getD 0 []).set 0 v)++[[]], ?_,(t1.st (by omega)).ap (by rw[List.length_set];omega)⟩
     refine fX fp [2] Tryz.func56 ?_
     have cE1:= @aM;have cM1:= @aP;have cM2:= @aE;have cD1:=gY [false,false,false,false,true,false,true] [(0,4),(1,4),(2,4)]
     have cE1:= @ci;have cM3:= @c1
     refine ax (aa @hx (aa @f1 (aa @hs2 (aa @hl0 (aa @hy (aa @hs3 (aa @hv (aa @hs4 (aa @hz @Ay))))))))) ?_
     all_goals try(apply ai;repeat' first|exact ah|apply aa|(apply ak;intro zb hc)|(apply aj;intro zb)|intro j')<;>try apply al
     all_goals(first|(rw[List.take_of_length_le (by simp)];done)|skip)
    ·have f3:(z=0)=False:=eq_false h3
     refine⟨fH b s4 14,A.set 0 ((A.getD 0 []).set 0 v), ?_,t1.st (by omega)⟩
     refine fX fp [2] Tryz.func56 ?_
     have cE1:= @aM;have cM1:= @aP;have cM2:= @aE;have cD1:=gY [false,false,false,false,true,false,true] [(0,4),(1,4),(2,4)]
     have cE1:= @ci;have cM3:= @c1
     refine ax (aa @hx (aa @f1 (aa @hs2 (aa @hl0 (aa @hy (aa @hs3 (aa @hv (aa @hs4 (aa @hz @f3))))))))) ?_
     all_goals try(apply ai;repeat' first|exact ah|apply aa|(apply ak;intro zb hc)|(apply aj;intro zb)|intro j')<;>try apply al
     all_goals(first|(rw[List.take_of_length_le (by simp)];done)|skip)
   ·have f2:(y=0)=False:=eq_false h2
    obtain⟨z,hz⟩:∃z,jL b s3 14=z:=⟨_,rfl⟩
    by_cases h3:z=0
    ·subst h3
     refine⟨fH b s3 14,A++[[]], ?_,t1.ap a1⟩
     refine fX fp [2] Tryz.func56 ?_
     have cE1:= @aM;have cM1:= @aP;have cM2:= @aE;have cD1:=gY [false,false,false,false,true,false,true] [(0,4),(1,4),(2,4)]
     have cE1:= @ci;have cM3:= @c1
     refine ax (aa @hx (aa @f1 (aa @hs2 (aa @hl0 (aa @hy (aa @f2 (aa @hs3 (aa @hz @Ay)))))))) ?_
     all_goals try(apply ai;repeat' first|exact ah|apply aa|(apply ak;intro zb hc)|(apply aj;intro zb)|intro j')<;>try apply al
     all_goals(first|(rw[List.take_of_length_le (by simp)];done)|skip)
    ·have f3:(z=0)=False:=eq_false h3
     refine⟨fH b s3 14,A, ?_,t1⟩
     refine fX fp [2] Tryz.func56 ?_
     have cE1:= @aM;have cM1:= @aP;have cM2:= @aE;have cD1:=gY [false,false,false,false,true,false,true] [(0,4),(1,4),(2,4)]
     have cE1:= @ci;have cM3:= @c1
     refine ax (aa @hx (aa @f1 (aa @hs2 (aa @hl0 (aa @hy (aa @f2 (aa @hs3 (aa @hz @f3)))))))) ?_
     all_goals try(apply ai;repeat' first|exact ah|apply aa|(apply ak;intro zb hc)|(apply aj;intro zb)|intro j')<;>try apply al
     all_goals(first|(rw[List.take_of_length_le (by simp)];done)|skip)
theorem jz (b:List UInt8) (hb:b.length≤1048576):∃T,Fun Tryz.prog 13 [.sl (.lent false) (b.map jW)] [.dl (List.map (List.map (PV.int .i64)) T)]∧TbL T:=by
 obtain⟨s1,T,c1,hp⟩:=pB b ⟨0,oB b (min b.length 4000)⟩ hb
 refine⟨T, ?_,hp⟩
 refine fO fp [2] Tryz.func13 ?_
 have cE1:= @gF
 have cM1:= @c1
 refine ax trivial ?_
 all_goals try(apply ai;repeat' first|exact ah|apply aa|(apply ak;intro zb hc)|(apply aj;intro zb)|intro j')<;>try apply al
def cC (v:Int):List Int→Int
 |[]=>0
 |w::p=>db (decide (w<v))+cC v p
def bm:List Int→List Int
 |[]=>[]
 |v::p=>cC v p::bm p
theorem ja:∀p:List Int,(bm p).length=p.length
 |[]=>rfl
 |_::p=>by simp[bm,ja p]
theorem qU (v:Int):∀p:List Int,0≤cC v p∧cC v p≤p.length
 |[]=>by simp[cC]
 |w::p=>by
  have:=qU v p;have:=ra (decide (w<v))
  simp only[cC,List.length_cons];omega
theorem nR:∀(p:List Int) (k:Nat),0≤(bm p).getD k 0∧(bm p).getD k 0≤p.length
 |[],k=>by simp[bm]
 |v::p,0=>by have:=qU v p;simp only[bm,List.getD_cons_zero,List.length_cons];omega
 |v::p,k+1=>by have:=nR p k;simp only[bm,List.getD_cons_succ,List.length_cons];omega
theorem iW {m0:Bool} (p:List Int) (hl:p.length≤1048576):Fun Tryz.prog 35 [(.sl (.lent m0) (List.map (PV.int .i64) (p)))] [(.sl .own (List.map (PV.int .i64) ((if ae p then bm p else[]))))]:=by
 refine fO aR [2] Tryz.func35 ?_
 have cE1:= @dN;have cE2:= @aq;have cD1:=gY [false,false,false,false,false,false,false,false,false,false,true,false,false] [(0,10)]
 refine dE trivial ?_
 all_goals try(apply ai;repeat' first|exact ah|apply aa|(apply ak;intro zb hc;repeat (have zc:=zb.1;replace zb:=zb.2))|(apply aj;intro zb)|intro j')<;>try apply al
 refine an (fun ms1 S1=>∃(k:Nat) (out:List Int),S1.e 0=.p (.sl (.lent m0) (List.map (PV.int .i64) (p)))∧OwnL (S1.e 3) S1.h S1.n (PV.int .i64) ((out).length) (out)∧S1.e 4=.p (.int .i64 (k))∧(k≤p.length)∧(0<k→ae p=true)∧(bm p=out++bm (p.drop k))∧(out.length=k)∧ms1=p.length - k) ((fun(k:Nat) (out:List Int)=>p.length - k) (0) ([])) ?_ ⟨0,[],jK trivial ?_⟩
 all_goals try(apply ai;repeat' first|exact ah|apply aa|(apply ak;intro zb hc;repeat (have zc:=zb.1;replace zb:=zb.2))|(apply aj;intro zb)|intro j')<;>try apply al
 rintro ms1 S1 ⟨k,out,h1_0,o1_3,h1_4,c1_0,c1_1,c1_2,c1_3,hm1⟩
 obtain⟨i1_3,h1_3,b1_3,l1_3⟩:=o1_3.out
 have ni1_3:=aG (x:=i1_3) (n:=S1.n)
 have fL1:=(aa h1_0 (aa h1_4 (aa h1_3 (aa b1_3 ni1_3))))
 refine ax fL1 ?_
 all_goals try(apply ai;repeat' first|exact ah|apply aa|(apply ak;intro zb hc;repeat (have zc:=zb.1;replace zb:=zb.2))|(apply aj;intro zb)|intro j')<;>try apply al
 ·refine an (fun ms2 S2=>∃(i:Nat) (n:Int),S2.e 0=.p (.sl (.lent m0) (List.map (PV.int .i64) (p)))∧S2.e 3=.ref i1_3 0 (out).length∧S2.h i1_3=.live false (List.map (PV.int .i64) (out))∧S2.e 4=.p (.int .i64 (k))∧S2.e 5=.p (.int .i64 (n))∧S2.e 6=.p (.int .i64 (i))∧(k<i)∧(i≤p.length)∧(0≤n)∧(n≤i)∧(n+cC (p.getD k 0) (p.drop i)=cC (p.getD k 0) (p.drop (k+1)))∧S1.n≤S2.n∧ms2=p.length - i) ((fun(i:Nat) (n:Int)=>p.length - i) (k+1) (0)) ?_ ⟨k+1,0,dI fL1 ?_⟩
  all_goals try(apply ai;repeat' first|exact ah|apply aa|(apply ak;intro zb hc;repeat (have zc:=zb.1;replace zb:=zb.2))|(apply aj;intro zb)|intro j')<;>try apply al
  rintro ms2 S2 ⟨i,n,h2_0,h2_3,b2_3,h2_4,h2_5,h2_6,c2_0,c2_1,c2_2,c2_3,c2_4,u2_0,hm2⟩
  have ni1_3:=aG (x:=i1_3) (n:=S2.n)
  have fL2:=(aa h2_0 (aa h2_3 (aa b2_3 (aa h2_4 (aa h2_5 (aa h2_6 ni1_3))))))
  refine dE fL2 ?_
  all_goals try(apply ai;repeat' first|exact ah|apply aa|(apply ak;intro zb hc;repeat (have zc:=zb.1;replace zb:=zb.2))|(apply aj;intro zb)|intro j')<;>try apply al
  all_goals have hb:=ra (decide (p.getD i 0<p.getD k 0))
  all_goals try exact gZ
  ·focus
    refine am ((fun(i:Nat) (n:Int)=>p.length - i) (i+1) (n+db (decide (p.getD i 0<p.getD k 0)))) (dC fL2 ?_) ⟨i+1,n+db (decide (p.getD i 0<p.getD k 0)),dC fL2 ?_⟩
    all_goals try(apply ai;repeat' first|exact ah|apply aa|(apply ak;intro zb hc;repeat (have zc:=zb.1;replace zb:=zb.2))|(apply aj;intro zb)|intro j')<;>try apply al
   rw[←c2_4,aY hc,cC,Int.add_assoc]
  ·focus
    refine am ((fun(k:Nat) (out:List Int)=>p.length - k) (k+1) (out++[n])) (dC fL2 ?_) ⟨k+1,out++[n],dC fL2 ?_⟩
    all_goals try(apply ai;repeat' first|exact ah|apply aa|(apply ak;intro zb hc;repeat (have zc:=zb.1;replace zb:=zb.2))|(apply aj;intro zb)|intro j')<;>try apply al
   ·intro _;assumption
   ·rw[c1_2,aY (by omega),bm,←c2_4,List.drop_of_length_le (by omega:p.length≤i),cC,Int.add_zero]
 ·have:k=0:=by
   rcases Nat.eq_zero_or_pos k with h|h
   ·exact h
   ·rw[c1_1 h]at hc;cases hc
  rw[List.eq_nil_of_length_eq_zero (by omega:out.length=0)];simp[hc]
 ·have hp:ae p=true:=by
   rcases Nat.eq_zero_or_pos k with h|h
   ·rw[List.eq_nil_of_length_eq_zero (by omega:p.length=0)];rfl
   ·exact c1_1 h
  rw[if_pos hp,c1_2,List.drop_of_length_le (by omega),bm,List.append_nil]
theorem ob {m0:Bool} (p:List Int) (hl:p.length≤1048576):Fun Tryz.prog 95 [(.sl (.lent m0) (List.map (PV.int .i64) (p)))] [(.sl .own (List.map (PV.int .i64) (bm p)))]:=by
 refine fO aR [2] Tryz.func95 ?_
 refine ax trivial ?_
 all_goals try(apply ai;repeat' first|exact ah|apply aa|(apply ak;intro zb hc;repeat (have zc:=zb.1;replace zb:=zb.2))|(apply aj;intro zb)|intro j')<;>try apply al
 refine an (fun ms1 S1=>∃(k:Nat) (out:List Int),S1.e 0=.p (.sl (.lent m0) (List.map (PV.int .i64) (p)))∧S1.e 10=.p (.sl (.lent m0) (List.map (PV.int .i64) (p)))∧S1.e 11=.p (.int .i64 (p.length))∧OwnL (S1.e 3) S1.h S1.n (PV.int .i64) ((out).length) (out)∧S1.e 12=.p (.int .i64 (k))∧(k≤p.length)∧(bm p=out++bm (p.drop k))∧(out.length=k)∧ms1=p.length - k) ((fun(k:Nat) (out:List Int)=>p.length - k) (0) ([])) ?_ ⟨0,[],jK trivial ?_⟩
 all_goals try(apply ai;repeat' first|exact ah|apply aa|(apply ak;intro zb hc;repeat (have zc:=zb.1;replace zb:=zb.2))|(apply aj;intro zb)|intro j')<;>try apply al
 rintro ms1 S1 ⟨k,out,h1_0,h1_10,h1_11,o1_3,h1_12,c1_0,c1_1,c1_2,hm1⟩
 obtain⟨i1_3,h1_3,b1_3,l1_3⟩:=o1_3.out
 have ni1_3:=aG (x:=i1_3) (n:=S1.n)
 have fL1:=(aa h1_0 (aa h1_10 (aa h1_11 (aa h1_12 (aa h1_3 (aa b1_3 ni1_3))))))
 refine ax fL1 ?_
 all_goals try(apply ai;repeat' first|exact ah|apply aa|(apply ak;intro zb hc;repeat (have zc:=zb.1;replace zb:=zb.2))|(apply aj;intro zb)|intro j')<;>try apply al
 ·refine an (fun ms2 S2=>∃(i:Nat) (n:Int),S2.e 0=.p (.sl (.lent m0) (List.map (PV.int .i64) (p)))∧S2.e 10=.p (.sl (.lent m0) (List.map (PV.int .i64) (p)))∧S2.e 11=.p (.int .i64 (p.length))∧S2.e 3=.ref i1_3 0 (out).length∧S2.h i1_3=.live false (List.map (PV.int .i64) (out))∧S2.e 12=.p (.int .i64 (k))∧S2.e 5=.p (.int .i64 (p.getD k 0))∧S2.e 6=.p (.int .i64 (n))∧S2.e 20=.p (.sl (.lent m0) (List.map (PV.int .i64) (p.drop (k+1))))∧S2.e 21=.p (.int .i64 ((p.drop (k+1)).length))∧S2.e 22=.p (.int .i64 (i))∧(i≤(p.drop (k+1)).length)∧(0≤n)∧(n≤i)∧(n+cC (p.getD k 0) ((p.drop (k+1)).drop i)=cC (p.getD k 0) (p.drop (k+1)))∧S1.n≤S2.n∧ms2=(p.drop (k+1)).length - i) ((fun(i:Nat) (n:Int)=>(p.drop (k+1)).length - i) (0) (0)) ?_ ⟨0,0,dI fL1 ?_⟩
  all_goals try(apply ai;repeat' first|exact ah|apply aa|(apply ak;intro zb hc;repeat (have zc:=zb.1;replace zb:=zb.2))|(apply aj;intro zb)|intro j')<;>try apply al
  rintro ms2 S2 ⟨i,n,h2_0,h2_10,h2_11,h2_3,b2_3,h2_12,h2_5,h2_6,h2_20,h2_21,h2_22,c2_0,c2_1,c2_2,c2_3,u2_0,hm2⟩
  have ni1_3:=aG (x:=i1_3) (n:=S2.n)
  have fL2:=(aa h2_0 (aa h2_10 (aa h2_11 (aa h2_3 (aa b2_3 (aa h2_12 (aa h2_5 (aa h2_6 (aa h2_20 (aa h2_21 (aa h2_22 ni1_3)))))))))))
  refine dE fL2 ?_
  all_goals try(apply ai;repeat' first|exact ah|apply aa|(apply ak;intro zb hc;repeat (have zc:=zb.1;replace zb:=zb.2))|(apply aj;intro zb)|intro j')<;>try apply al
  all_goals have hd:(p.drop (k+1)).length=p.length - (k+1):=by simp
  all_goals try exact gZ
  ·focus
    refine am ((fun(i:Nat) (n:Int)=>(p.drop (k+1)).length - i) (i+1) (n+1)) (dC fL2 ?_) ⟨i+1,n+1,dC fL2 ?_⟩
    all_goals try(apply ai;repeat' first|exact ah|apply aa|(apply ak;intro zb hc;repeat (have zc:=zb.1;replace zb:=zb.2))|(apply aj;intro zb)|intro j')<;>try apply al
   rw[←c2_3,aY (by assumption:i<(p.drop (k+1)).length),cC,db,decide_eq_true hc,if_pos rfl,Int.add_assoc]
  ·focus
    refine am ((fun(i:Nat) (n:Int)=>(p.drop (k+1)).length - i) (i+1) (n)) (dC fL2 ?_) ⟨i+1,n,dC fL2 ?_⟩
    all_goals try(apply ai;repeat' first|exact ah|apply aa|(apply ak;intro zb hc;repeat (have zc:=zb.1;replace zb:=zb.2))|(apply aj;intro zb)|intro j')<;>try apply al
   rw[←c2_3,aY (by assumption:i<(p.drop (k+1)).length),cC,db,decide_eq_false (by omega),if_neg (by decide),Int.zero_add]
  ·focus
    refine am ((fun(k:Nat) (out:List Int)=>p.length - k) (k+1) (out++[n])) (dC fL2 ?_) ⟨k+1,out++[n],dC fL2 ?_⟩
    all_goals try(apply ai;repeat' first|exact ah|apply aa|(apply ak;intro zb hc;repeat (have zc:=zb.1;replace zb:=zb.2))|(apply aj;intro zb)|intro j')<;>try apply al
   rw[c1_1,aY (by omega:k<p.length),bm,←c2_3,List.drop_of_length_le (by omega:(p.drop (k+1)).length≤i),cC,Int.add_zero]
 ·rw[c1_1,List.drop_of_length_le (by omega),bm,List.append_nil]
def nL (n:Nat):List Int:=(List.range n).map fun i:Nat=>(i:Int)+1
theorem vl {n:Nat}:nL (n+1)=nL n++[(n:Int)+1]:=by simp[nL,List.range_succ]
theorem f7 {n:Nat}:(nL n).length=n:=by simp[nL]
theorem oJ (n:Int) (h0:0≤n) (h1:n≤1099511627776):Fun Tryz.prog 176 [(.int .i64 (n))] [(.sl .own (List.map (PV.int .i64) (nL n.toNat)))]:=by
 refine fO aR [2] Tryz.func176 ?_
 refine dE trivial ?_
 all_goals try(apply ai;repeat' first|exact ah|apply aa|(apply ak;intro zb hc)|(apply aj;intro zb)|intro j')<;>try apply al
 refine an (fun ms1 S1=>∃(k:Nat),S1.e 0=.p (.int .i64 (n))∧OwnL (S1.e 3) S1.h S1.n (PV.int .i64) ((nL k).length) (nL k)∧S1.e 6=.p (.int .i64 (n))∧S1.e 7=.p (.int .i64 (k))∧((k:Int)≤n)∧ms1=n.toNat - k) ((fun(k:Nat)=>n.toNat - k) (0)) ?_ ⟨0,dI trivial ?_⟩
 all_goals try(apply ai;repeat' first|exact ah|apply aa|(apply ak;intro zb hc)|(apply aj;intro zb)|intro j')<;>try apply al
 rintro ms1 S1 ⟨k,h1_0,o1_3,h1_6,h1_7,c1_0,hm1⟩
 obtain⟨i1_3,h1_3,b1_3,l1_3⟩:=o1_3.out
 have ni1_3:=aG (x:=i1_3) (n:=S1.n)
 have fL1:=(aa h1_0 (aa h1_6 (aa h1_7 (aa h1_3 (aa b1_3 ni1_3)))))
 refine dE fL1 ?_
 all_goals try(apply ai;repeat' first|exact ah|apply aa|(apply ak;intro zb hc)|(apply aj;intro zb)|intro j')<;>try apply al
 all_goals have hl:=f7 (n:=k)
 all_goals try exact gZ
 ·focus
   refine am ((fun(k:Nat)=>n.toNat - k) (k+1)) (dC fL1 ?_) ⟨k+1,dC fL1 ?_⟩
   all_goals try(apply ai;repeat' first|exact ah|apply aa|(apply ak;intro zb hc)|(apply aj;intro zb)|intro j')<;>try apply al
  all_goals simp[vl,f7]
 ·rw[show k=n.toNat by omega]
theorem ba (n:Int) (h0:0≤n) (h1:n≤8):Fun Tryz.prog 123 [(.int .i64 (n))] [(.sl .own (List.map (PV.int .i64) (nL n.toNat)))]:=by
 refine fO aR [2] Tryz.func123 ?_
 refine dE trivial ?_
 all_goals try(apply ai;repeat' first|exact ah|apply aa|(apply ak;intro zb hc)|(apply aj;intro zb)|intro j')<;>try apply al
 refine an (fun ms1 S1=>∃(k:Nat),S1.e 0=.p (.int .i64 (n))∧OwnL (S1.e 3) S1.h S1.n (PV.int .i64) ((nL k).length) (nL k)∧S1.e 4=.p (.int .i64 ((k+1)))∧((k:Int)≤n)∧ms1=n.toNat - k) ((fun(k:Nat)=>n.toNat - k) (0)) ?_ ⟨0,dI trivial ?_⟩
 all_goals try(apply ai;repeat' first|exact ah|apply aa|(apply ak;intro zb hc)|(apply aj;intro zb)|intro j')<;>try apply al
 rintro ms1 S1 ⟨k,h1_0,o1_3,h1_4,c1_0,hm1⟩
 obtain⟨i1_3,h1_3,b1_3,l1_3⟩:=o1_3.out
 have ni1_3:=aG (x:=i1_3) (n:=S1.n)
 have fL1:=(aa h1_0 (aa h1_4 (aa h1_3 (aa b1_3 ni1_3))))
 refine dE fL1 ?_
 all_goals try(apply ai;repeat' first|exact ah|apply aa|(apply ak;intro zb hc)|(apply aj;intro zb)|intro j')<;>try apply al
 all_goals have hl:=f7 (n:=k)
 all_goals try exact gZ
 ·focus
   refine am ((fun(k:Nat)=>n.toNat - k) (k+1)) (dC fL1 ?_) ⟨k+1,dC fL1 ?_⟩
   all_goals try(apply ai;repeat' first|exact ah|apply aa|(apply ak;intro zb hc)|(apply aj;intro zb)|intro j')<;>try apply al
  all_goals simp[vl,f7]
 ·rw[show k=n.toNat by omega]
end Go.Gl
