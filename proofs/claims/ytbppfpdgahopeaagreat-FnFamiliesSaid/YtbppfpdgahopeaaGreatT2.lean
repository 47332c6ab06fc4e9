/-
  What the functions compute, and what the law asks of it: texts joined. Conditions: those that each lemma names.
-/
import Derived.Test.YtbppfpdgahopeaaGreatT1
import Derived.Test.YtbppfpdgahopeaaGreatGlC
import Derived.Test.YtbppfpdgahopeaaGreatProg
import Derived.Shelf.Lay
import Derived.Shelf.LaySoft
import Derived.Shelf.Strings.Builder1
import Derived.Shelf.Strings.Builder2
import Derived.Shelf.Strings.OnBuilder
import Derived.Ground.Names2Prog
import Derived.Shelf.Slices.Clone
set_option linter.unusedSimpArgs false
set_option linter.unusedVariables false
set_option maxRecDepth 20000
set_option linter.unusedSectionVars false
namespace Go.Gl
open Go Go.Proofs
variable [Amb] [NoQ]
def spG (g:List Int→Nat→List Int) (p:List Int):Nat→List (List Int)×Nat×Int
 |0=>([],0,0)
 |k+1=>if max (spG g p k).2.2 (p.getD k 0)=k+1 then((spG g p k).1++[g (segL p (spG g p k).2.1 (k+1)) (spG g p k).2.1],k+1,max (spG g p k).2.2 (p.getD k 0))
  else((spG g p k).1,(spG g p k).2.1,max (spG g p k).2.2 (p.getD k 0))
theorem spG_from {g:List Int→Nat→List Int} {p:List Int}:∀{k:Nat},(spG g p k).2.1≤k∧(spG g p k).1.length≤k
 |0=>by simp[spG]
 |k+1=>by have:=spG_from (g:=g) (p:=p) (k:=k);rw[spG];split<;>simp<;>omega
def shI (s:List Int) (f:Nat):List Int:=s.map fun x=>x+ -(f:Int)
def ptI (s:List Int) (_:Nat):List Int:=patL s
theorem impl_raised_c {m0:Bool} (l:List Int) (d:Int) (hl:l.length≤1048576) (hb:∀x∈l, -1000000≤x∧x≤1000000) (hd: -1000000≤d∧d≤1000000):Fun Tryz.prog 119 [(.sl (.lent m0) (List.map (PV.int .i64) (l))),(.int .i64 (d))] [(.sl .own (List.map (PV.int .i64) (l.map (fun x=>x+d))))]:=by
 refine fO sg0 [4] Tryz.func119 ?_
 refine dEa trivial ?_
 all_goals try (refine zlf ?_;repeat' first|exact zso|refine And.intro ?_ ?_|(refine zim ?_;intro zb hc)|(refine zin ?_;intro zb)|intro j')
 all_goals try refine zbx ?_
 refine v_loopB (fun ms1 S1=>∃(k:Nat),S1.e 1=.p (.int .i64 (d))∧S1.e 9=.p (.sl (.lent m0) (List.map (PV.int .i64) (l)))∧S1.e 10=.p (.int .i64 (l.length))∧OwnL (S1.e 5) S1.h S1.n (PV.int .i64) (((l.take k).map (fun x=>x+d)).length) ((l.take k).map (fun x=>x+d))∧S1.e 11=.p (.int .i64 (k))∧(k≤l.length)∧ms1=l.length - k) ((fun(k:Nat)=>l.length - k) (0)) ?_ ⟨0,dI trivial ?_⟩
 all_goals try (refine zlf ?_;repeat' first|exact zso|refine And.intro ?_ ?_|(refine zim ?_;intro zb hc)|(refine zin ?_;intro zb)|intro j')
 all_goals try refine zbx ?_
 rintro ms1 S1 ⟨k,h1_1,h1_9,h1_10,o1_5,h1_11,c1_0,hm1⟩
 obtain⟨i1_5,h1_5,b1_5,l1_5⟩:=o1_5.out
 have ni1_5:=znds (x:=i1_5) (n:=S1.n)
 have fL1:=(And.intro h1_1 (And.intro h1_9 (And.intro h1_10 (And.intro h1_11 (And.intro h1_5 (And.intro b1_5 ni1_5))))))
 have b1:k<l.length→ -1000000≤l.getD k 0∧l.getD k 0≤1000000:=fun h=>hb _ (getD_mem h)
 refine dE fL1 ?_
 all_goals try (refine zlf ?_;repeat' first|exact zso|refine And.intro ?_ ?_|(refine zim ?_;intro zb hc)|(refine zin ?_;intro zb)|intro j')
 all_goals try refine zbx ?_
 all_goals try have b2:=b1 (by omega)
 all_goals try exact zaut
 ·focus
   refine q_lp_n ((fun(k:Nat)=>l.length - k) (k+1)) (dC fL1 ?_) ⟨k+1,dC fL1 ?_⟩
   all_goals try (refine zlf ?_;repeat' first|exact zso|refine And.intro ?_ ?_|(refine zim ?_;intro zb hc)|(refine zin ?_;intro zb)|intro j')
   all_goals try refine zbx ?_
  rw[take_getD (d:=0) (by omega),List.map_append];rfl
 ·rw[List.take_of_length_le (by omega)]
theorem seg_b {p:List Int} {a b:Nat} (hb:∀x∈p,0≤x∧x≤8):∀x∈segL p a b, -1000000≤x∧x≤1000000:=fun x hx=>by have:=hb x (segL_mem hx);omega
theorem perm_b8 {p:List Int} (h:isPermB p=true):∀x∈p,0≤x∧x≤8:=fun x hx=>by
 simp only[isPermB,Bool.and_eq_true,decide_eq_true_eq]at h
 have:=(permB_iff.1 h.2).1 x hx;omega
theorem spG_b {g:List Int→Nat→List Int} {p:List Int} (hb:∀x∈p,0≤x∧x≤8):∀{k:Nat},k≤p.length→0≤(spG g p k).2.2∧(spG g p k).2.2≤8
 |0,_=>by simp[spG]
 |k+1,h=>by
  have h1:=spG_b (g:=g) hb (k:=k) (by omega)
  have h2:=hb _ (getD_mem (d:=0) (show k<p.length by omega))
  rw[spG];split<;>simp only<;>omega
theorem impl_sumParts_c {m0:Bool} (p:List Int) (hl:p.length≤8) (hb:∀x∈p,0≤x∧x≤8):Fun Tryz.prog 92 [(.sl (.lent m0) (List.map (PV.int .i64) (p)))] [(.sl .own (List.map (elI false) ((spG shI p p.length).1)))]:=by
 refine fO sg0 [2] Tryz.func92 ?_
 have cE1:= @impl_raised_c
 refine dEa trivial ?_
 all_goals try (refine zlf ?_;repeat' first|exact zso|refine And.intro ?_ ?_|(refine zim ?_;intro zb hc)|(refine zin ?_;intro zb)|intro j')
 all_goals try refine zbx ?_
 refine v_loopB (fun ms1 S1=>∃(k:Nat),S1.e 9=.p (.sl (.lent m0) (List.map (PV.int .i64) (p)))∧S1.e 10=.p (.int .i64 (p.length))∧S1.e 0=.p (.sl (.lent m0) (List.map (PV.int .i64) (p)))∧OwnL (S1.e 3) S1.h S1.n (elI false) (((spG shI p k).1).length) ((spG shI p k).1)∧S1.e 4=.p (.int .i64 ((spG shI p k).2.1))∧S1.e 5=.p (.int .i64 ((spG shI p k).2.2))∧S1.e 11=.p (.int .i64 (k))∧(k≤p.length)∧ms1=p.length - k) ((fun(k:Nat)=>p.length - k) (0)) ?_ ⟨0,dC trivial ?_⟩
 all_goals try (refine zlf ?_;repeat' first|exact zso|refine And.intro ?_ ?_|(refine zim ?_;intro zb hc)|(refine zin ?_;intro zb)|intro j')
 all_goals try refine zbx ?_
 rintro ms1 S1 ⟨k,h1_9,h1_10,h1_0,o1_3,h1_4,h1_5,h1_11,c1_0,hm1⟩
 obtain⟨i1_3,h1_3,b1_3,l1_3⟩:=o1_3.out
 have ni1_3:=znds (x:=i1_3) (n:=S1.n)
 have fL1:=(And.intro h1_9 (And.intro h1_10 (And.intro h1_0 (And.intro h1_4 (And.intro h1_5 (And.intro h1_11 (And.intro h1_3 (And.intro b1_3 ni1_3))))))))
 have b1:=spG_from (g:=shI) (p:=p) (k:=k)
 have b2:=spG_b (g:=shI) hb c1_0
 have b3:List.drop (spG shI p k).2.1 (List.take (k+1) p)=segL p (spG shI p k).2.1 (k+1):=rfl
 by_cases hk:k<p.length
 ·have b4:=hb _ (getD_mem (d:=0) hk)
  have b5:(segL p (spG shI p k).2.1 (k+1)).length=k+1 - (spG shI p k).2.1:=segL_len (by omega)
  have b6:=seg_b (a:=(spG shI p k).2.1) (b:=k+1) hb
  have b7:((k:Int)+1).toNat=k+1:=by omega
  refine dEa (And.intro fL1 (And.intro @b3 @b7)) ?_
  all_goals try (refine zlf ?_;repeat' first|exact zso|refine And.intro ?_ ?_|(refine zim ?_;intro zb hc)|(refine zin ?_;intro zb)|intro j')
  all_goals try refine zbx ?_
  ·have x1:spG shI p (k+1)=_:=if_pos hc
   focus
    refine q_lp_n ((fun(k:Nat)=>p.length - k) (k+1)) (dC fL1 ?_) ⟨k+1,dC fL1 ?_⟩
    all_goals try (refine zlf ?_;repeat' first|exact zso|refine And.intro ?_ ?_|(refine zim ?_;intro zb hc)|(refine zin ?_;intro zb)|intro j')
    all_goals try refine zbx ?_
   all_goals(rw[x1];try simp[shI,ptI])
  ·have x1:spG shI p (k+1)=_:=if_neg hc
   focus
    refine q_lp_n ((fun(k:Nat)=>p.length - k) (k+1)) (dC fL1 ?_) ⟨k+1,dC fL1 ?_⟩
    all_goals try (refine zlf ?_;repeat' first|exact zso|refine And.intro ?_ ?_|(refine zim ?_;intro zb hc)|(refine zin ?_;intro zb)|intro j')
    all_goals try refine zbx ?_
   all_goals(rw[x1])
 ·refine dEa fL1 ?_
  all_goals try (refine zlf ?_;repeat' first|exact zso|refine And.intro ?_ ?_|(refine zim ?_;intro zb hc)|(refine zin ?_;intro zb)|intro j')
  all_goals try refine zbx ?_
  obtain rfl:k=p.length:=by omega
  rfl
theorem spec_SumParts_c {m0:Bool} (p:List Int) (hp:isPermB p=true):Fun Tryz.prog 101 [(.sl (.lent m0) (List.map (PV.int .i64) (p)))] [(.sl .own (List.map (elI false) ((spG ptI p p.length).1)))]:=by
 refine fO sg0 [2] Tryz.func101 ?_
 have cE1:= @spec_l1Max_c;have cE2:= @spec_IsPerm_c;have cE3:= @spec_l2Pattern_c
 have hl:=(isPerm_facts hp).1
 have hb:=perm_b8 hp
 refine dEa @hp ?_
 all_goals try (refine zlf ?_;repeat' first|exact zso|refine And.intro ?_ ?_|(refine zim ?_;intro zb hc)|(refine zin ?_;intro zb)|intro j')
 all_goals try refine zbx ?_
 refine v_loopB (fun ms1 S1=>∃(k:Nat),S1.e 0=.p (.sl (.lent m0) (List.map (PV.int .i64) (p)))∧OwnL (S1.e 3) S1.h S1.n (elI false) (((spG ptI p k).1).length) ((spG ptI p k).1)∧S1.e 4=.p (.int .i64 ((spG ptI p k).2.1))∧S1.e 5=.p (.int .i64 ((spG ptI p k).2.2))∧S1.e 6=.p (.int .i64 (k))∧(k≤p.length)∧ms1=p.length - k) ((fun(k:Nat)=>p.length - k) (0)) ?_ ⟨0,dC trivial ?_⟩
 all_goals try (refine zlf ?_;repeat' first|exact zso|refine And.intro ?_ ?_|(refine zim ?_;intro zb hc)|(refine zin ?_;intro zb)|intro j')
 all_goals try refine zbx ?_
 rintro ms1 S1 ⟨k,h1_0,o1_3,h1_4,h1_5,h1_6,c1_0,hm1⟩
 obtain⟨i1_3,h1_3,b1_3,l1_3⟩:=o1_3.out
 have ni1_3:=znds (x:=i1_3) (n:=S1.n)
 have fL1:=(And.intro h1_0 (And.intro h1_4 (And.intro h1_5 (And.intro h1_6 (And.intro h1_3 (And.intro b1_3 ni1_3))))))
 have b1:=spG_from (g:=ptI) (p:=p) (k:=k)
 have b2:=spG_b (g:=ptI) hb c1_0
 have b3:List.drop (spG ptI p k).2.1 (List.take (k+1) p)=segL p (spG ptI p k).2.1 (k+1):=rfl
 by_cases hk:k<p.length
 ·have b4:=hb _ (getD_mem (d:=0) hk)
  have b5:(segL p (spG ptI p k).2.1 (k+1)).length=k+1 - (spG ptI p k).2.1:=segL_len (by omega)
  have b7:((k:Int)+1).toNat=k+1:=by omega
  refine dEa (And.intro fL1 (And.intro @b3 @b7)) ?_
  all_goals try (refine zlf ?_;repeat' first|exact zso|refine And.intro ?_ ?_|(refine zim ?_;intro zb hc)|(refine zin ?_;intro zb)|intro j')
  all_goals try refine zbx ?_
  ·have x1:spG ptI p (k+1)=_:=if_pos hc
   focus
    refine q_lp_n ((fun(k:Nat)=>p.length - k) (k+1)) (dC fL1 ?_) ⟨k+1,dC fL1 ?_⟩
    all_goals try (refine zlf ?_;repeat' first|exact zso|refine And.intro ?_ ?_|(refine zim ?_;intro zb hc)|(refine zin ?_;intro zb)|intro j')
    all_goals try refine zbx ?_
   all_goals(rw[x1];try simp[shI,ptI])
  ·have x1:spG ptI p (k+1)=_:=if_neg hc
   focus
    refine q_lp_n ((fun(k:Nat)=>p.length - k) (k+1)) (dC fL1 ?_) ⟨k+1,dC fL1 ?_⟩
    all_goals try (refine zlf ?_;repeat' first|exact zso|refine And.intro ?_ ?_|(refine zim ?_;intro zb hc)|(refine zin ?_;intro zb)|intro j')
    all_goals try refine zbx ?_
   all_goals(rw[x1])
 ·refine dEa fL1 ?_
  all_goals try (refine zlf ?_;repeat' first|exact zso|refine And.intro ?_ ?_|(refine zim ?_;intro zb hc)|(refine zin ?_;intro zb)|intro j')
  all_goals try refine zbx ?_
  obtain rfl:k=p.length:=by omega
  rfl
theorem slices_Grow_c (n:Nat) (h1:n≤1000000):
  Fun Tryz.prog 150 [.sl .own [],.int .i64 n] [.sl .own []]:=by
 refine Fun.of_row 3 Tryz.func150 rfl rfl rfl (fun x hx=>by cases hx) ?_
 intro w F G vs _ hv
 simp only[RepL]at hv
 obtain⟨a,vs1,rfl,ha,b,vs2,rfl,hb,rfl⟩:=hv
 simp only[RepP]at ha hb
 subst hb
 obtain⟨ad,cap,rfl,_,_,hown,_⟩:=ha
 obtain⟨_,rfl,rfl⟩:=hown trivial
 by_cases h0:n=0
 ·subst h0
  refine(Tryz.slices_Grow_room none 0 0 0 w (Nat.le_refl _) (by omega) (by omega) (Nat.le_refl _)).mono ?_
  rintro e w' ⟨rfl,rfl⟩
  exact⟨_,rfl,⟨rfl,.inl ⟨rfl,rfl⟩⟩,Go.RowKit.Below.refl _ _⟩
 ·obtain⟨i0,hi,hz0,hz1,hz2⟩:=info_parts (P:=Tryz.prog) (e:=3) (show(Tryz.prog.info? 3).map (fun i=>(i.zero,i.size,i.bytes))=some (some (.int .i64 0),1,8)by kernel_rfl)
  have key:=Any8.slices_Grow_grow Tryz.laysGrow i0 (.int .i64 0) hi hz0 (by rw[hz1];decide) none 0 0 n [] w (Nat.le_refl _) (by omega) (by rw[hz2];omega) (by omega) (by simp) (fun _=>rfl) (fun a h=>by cases h)
  refine Calls.mono key ?_
  rintro e w' ⟨rfl,rfl⟩
  have g1:=grownCap_ge w (0+n) 0 (Tryz.laysGrow_ren.t 25)
  have g2:=grownCap_le_maxLen w (0+n) 0 (Tryz.laysGrow_ren.t 25) (by unfold maxLen;omega)
  refine⟨_,rfl,⟨rfl,.inr ⟨w.heap.size,grownCap w (0+n) 0 (Tryz.laysGrow_ren.t 25), #[]++Builtin.zeroCells (Value.int IntKind.i64 0).cells (0+n - 0)++Builtin.zeroCells (Value.int IntKind.i64 0).cells (grownCap w (0+n) 0 (Tryz.laysGrow_ren.t 25) - (0+n)),rfl,Nat.le_refl _,(MapKept.heap_alloc w.drew _).1,Nat.zero_le _,g2, ?_,rfl⟩⟩, ?_⟩
  ·simp only[Nat.zero_add]at g1 g2 ⊢
   simp[Builtin.zeroCells,Value.cells]
   omega
  ·exact((Go.RowKit.Below.refl w.heap.size w).drew).alloc (Nat.le_refl _) _
theorem slices_Grow_d (n:Nat) (h1:n≤1000000):Fun Tryz.prog 150 [.sl .own [],.int .i64 n] [.sl .own (List.map (PV.int .i64) [])]:=slices_Grow_c n h1
mutual
def wk:PV→PV
 | .sl .fr xs=>.sl .ro (wkL xs)
 | .sl .ro xs=>.sl .ro (wkL xs)
 | .agg xs=>.agg (wkL xs)
 | .sl .own xs=>.sl .own xs
 | .int k n=>.int k n
 | .bool b=>.bool b
 | .str s=>.str s
 | .fn f a b=>.fn f a b
 | .nilf=>.nilf
 | .pc xs=>.pc xs
 | .any=>.any
 | .dl rows=>.dl rows
 | .bx xs=>.bx xs
 | .nl=>.nl
def wkL:List PV→List PV
 |[]=>[]
 |x::xs=>wk x::wkL xs
end
theorem wkL_len:∀{xs:List PV},(wkL xs).length=xs.length
 |[]=>rfl
 |x::xs=>by simp only[wkL,List.length_cons,wkL_len (xs:=xs)]
theorem wkL_map {α:Type} {f g:α→PV} (h:∀a,wk (f a)=g a):∀{l:List α},wkL (l.map f)=l.map g
 |[]=>rfl
 |x::l=>by simp only[List.map_cons,wkL,h,wkL_map h (l:=l)]
mutual
theorem RepP.wk {w:World} {F G:Nat→Prop}:∀(x:PV) (v:Value),RepP w F G x v→RepP w F G (Gl.wk x) v
 | .int _ _,_,h=>h
 | .bool _,_,h=>h
 | .str _,_,h=>h
 | .nilf,_,h=>h
 | .any,_,_=>trivial
 | .dl _,_,h=>by simp only[RepP]at h
 | .nl,_,h=>h
 | .bx _,_,h=>h
 | .fn _ _ _,_,h=>h
 | .pc _,_,h=>h
 | .sl o xs,v,h=>by
  cases o with
  |own=>exact h
  |ro=>
   simp only[Gl.wk,RepP]at h ⊢
   obtain⟨a,cap,hv,hl,hm,ho,hx⟩:=h
   refine⟨a,cap,by rw[wkL_len];exact hv,by rw[wkL_len];exact hl,hm,fun q=>(by cases q), ?_⟩
   rcases hx with hx|⟨B,off,ha,hF,hG,hc⟩
   ·subst hx;exact .inl (by simp only[wkL])
   ·exact .inr ⟨B,off,ha,hF,fun q=>(by cases q),RepC.wk xs B off hc⟩
  |fr=>
   simp only[Gl.wk,RepP]at h ⊢
   obtain⟨a,cap,hv,hl,hm,ho,hx⟩:=h
   refine⟨a,cap,by rw[wkL_len];exact hv,by rw[wkL_len];exact hl,hm,fun q=>(by cases q), ?_⟩
   rcases hx with hx|⟨B,off,ha,hF,hG,hc⟩
   ·subst hx;exact .inl (by simp only[wkL])
   ·exact .inr ⟨B,off,ha,hF,fun q=>(by cases q),RepC.wk xs B off hc⟩
 | .agg xs,v,h=>by
  simp only[Gl.wk,RepP]at h ⊢
  obtain⟨cs,hv,hx⟩:=h
  exact⟨cs,hv,RepL.wk xs cs hx⟩
theorem RepC.wk {w:World} {F G:Nat→Prop}:∀(xs:List PV) (B o:Nat),RepC w F G B o xs→RepC w F G B o (wkL xs)
 |[],_,_,_=>by simp only[wkL,RepC]
 |x::xs,B,o,h=>by
  simp only[wkL,RepC]at h ⊢
  obtain⟨⟨v,hv,h1,hx⟩,hr⟩:=h
  exact⟨⟨v,hv,h1,RepP.wk x v hx⟩,RepC.wk xs B (o+1) hr⟩
theorem RepL.wk {w:World} {F G:Nat→Prop}:∀(xs:List PV) (vs:List Value),RepL w F G xs vs→RepL w F G (wkL xs) vs
 |[],vs,h=>h
 |x::xs,vs,h=>by
  simp only[wkL,RepL]at h ⊢
  obtain⟨v,vs',rfl,h1,h2⟩:=h
  exact⟨v,vs',rfl,RepP.wk x v h1,RepL.wk xs vs' h2⟩
end
theorem Fun.wk {P:Program} {f:FuncId} {args args' res:List PV} (e:wkL args=args') (h:Fun P f args' res):Fun P f args res:=by
 subst e
 obtain⟨h1,h2,h3,h4,h5⟩:=h
 refine⟨h1,h2,h3,h4,fun w G ι vs amb hG ok hrp=> ?_⟩
 have hlen:(List.map Arg.pv (wkL args)).length=(args.map Arg.pv).length:=by simp only[List.length_map,wkL_len]
 have hH:argH ((wkL args).map .pv)=argH (args.map .pv):=by
  funext j
  unfold argH
  rw[List.getElem?_map,List.getElem?_map]
  cases (wkL args)[j]? <;>cases args[j]? <;>rfl
 have hM:argM ((wkL args).map .pv) ι=argM (args.map .pv) ι:=by funext B;unfold argM;rw[hH]
 have hP:postH false ((wkL args).map .pv) [] res=postH false (args.map .pv) [] res:=by
  unfold postH
  have:outH ((wkL args).map .pv) []=outH (args.map .pv) []:=by
   funext j
   unfold outH
   rw[List.getElem?_map,List.getElem?_map]
   cases (wkL args)[j]? <;>cases args[j]? <;>rfl
  rw[this,hlen]
 have hrep:∀(l:List PV) (vs:List Value) (k:Nat),RepAL w (Held (argH (args.map .pv)) ι) G ι (argAVs k (l.map .pv)) vs→RepAL w (Held (argH (args.map .pv)) ι) G ι (argAVs k ((wkL l).map .pv)) vs:=by
  intro l
  induction l with
  |nil=>intro vs k h;exact h
  |cons x l ih=>
   intro vs k h
   simp only[wkL,List.map_cons,argAVs,Arg.av,RepAL,RepA]at h ⊢
   obtain⟨v,vs',rfl,h1,h2⟩:=h
   exact⟨v,vs',rfl,RepP.wk x v h1,ih _ _ h2⟩
 have key:=h5 w G ι vs (by rw[hM];exact amb) hG (by rw[hM,hH];exact ok) (by rw[hH];exact hrep args vs 0 hrp)
 rw[hM,hP,hlen]at key
 exact key
theorem fill_count {l:List Int} {a:Int} (hn:l.Nodup) (hb:∀x∈l,a<x∧x≤a+l.length) {x:Int} (hx:x∈l):((l.filter fun y=>decide (y<x)).length:Int)=x - a - 1:=by
 have h1:=hb x hx
 have h2:(l.filter fun y=>decide (y<x)).length≤(x - a - 1).toNat:=nodup_le (a:=a) (List.Nodup.sublist List.filter_sublist hn) fun y hy=>by
  simp only[List.mem_filter,decide_eq_true_eq]at hy
  have:=hb y hy.1;omega
 have h3:(l.filter fun y=> !decide (y<x)).length≤(a+l.length - (x - 1)).toNat:=nodup_le (a:=x - 1) (List.Nodup.sublist List.filter_sublist hn) fun y hy=>by
  simp only[List.mem_filter,Bool.not_eq_true',decide_eq_false_iff_not]at hy
  have:=hb y hy.1;omega
 have h4:=len_two (fun y=>decide (y<x)) l
 omega
theorem patL_shift {l:List Int} {a:Int} (hn:l.Nodup) (hb:∀x∈l,a<x∧x≤a+l.length):patL l=l.map fun x=>x+ -a:=by
 refine List.map_congr_left fun x hx=> ?_
 rw[rkI,List.take_length,fill_count hn hb hx];omega
theorem getD_seg {p:List Int} {x:Int} {a b:Nat} (h:x∈segL p a b):∃j,a≤j∧j<b∧j<p.length∧p.getD j 0=x:=by
 obtain⟨i,hi,rfl⟩:=List.getElem_of_mem h
 simp only[segL,List.length_drop,List.length_take]at hi
 refine⟨a+i,by omega,by omega,by omega, ?_⟩
 simp only[segL,List.getElem_drop,List.getElem_take,List.getD_eq_getElem?_getD]
 rw[List.getElem?_eq_getElem (by omega)];rfl
theorem maxI_le {p:List Int} {g:List Int→Nat→List Int}:∀{k:Nat},k≤p.length→∀j,j<k→p.getD j 0≤(spG g p k).2.2
 |k+1,h,j,hj=>by
  have ih:=maxI_le (g:=g) (p:=p) (k:=k) (by omega)
  have e:(spG g p (k+1)).2.2=max (spG g p k).2.2 (p.getD k 0):=by rw[spG];split<;>rfl
  rw[e]
  by_cases hk:j=k
  ·subst hk;omega
  ·have:=ih j (by omega);omega
theorem spG_fill {p:List Int} {g:List Int→Nat→List Int} (hp:permB p=true):∀{k:Nat},k≤p.length→∀j,j<(spG g p k).2.1→p.getD j 0≤(spG g p k).2.1
 |0,_,j,hj=>by simp[spG]at hj
 |k+1,h,j,hj=>by
  rw[spG]at hj ⊢
  split at hj
  ·rename_i e
   rw[if_pos e]
   simp only at hj ⊢
   have:=maxI_le (g:=g) h j hj
   have e2:(spG g p (k+1)).2.2=max (spG g p k).2.2 (p.getD k 0):=by rw[spG];split<;>rfl
   push_cast;omega
  ·rename_i e
   rw[if_neg e]
   exact spG_fill hp (by omega) j hj
theorem nodup_take {p:List Int} (h:p.Nodup) {a b:Nat}:(segL p a b).Nodup:=List.Nodup.sublist ((List.drop_sublist _ _).trans (List.take_sublist _ _)) h
theorem seg_fill {p:List Int} (hp:permB p=true) {f b:Nat} (hb:b≤p.length) (hf:f≤b) (h1:∀j,j<f→p.getD j 0≤f) (h2:∀j,j<b→p.getD j 0≤b):∀x∈segL p f b,(f:Int)<x∧x≤f+(segL p f b).length:=by
 intro x hx
 obtain⟨j,j1,j2,j3,rfl⟩:=getD_seg hx
 have hq:=permB_iff.1 hp
 rw[segL_len hb]
 refine⟨?_,by have:=h2 j j2;omega⟩
 by_cases hlt:(f:Int)<p.getD j 0
 ·exact hlt
 ·exfalso
  have l1:(p.getD j 0::p.take f).length≤f:=nodup_le (a:=0) (by
   rw[List.nodup_cons]
   refine⟨fun hm=> ?_,List.Nodup.sublist (List.take_sublist _ _) hq.2⟩
   obtain⟨i,hi,e⟩:=List.getElem_of_mem hm
   rw[List.getElem_take]at e
   have e2:p[i]'(by simp at hi;omega)=p[j]:=by rw[e,List.getD_eq_getElem?_getD,List.getElem?_eq_getElem j3];rfl
   have:=(List.getElem_inj hq.2).1 e2
   simp at hi;omega) fun x hx=>by
   rcases List.mem_cons.1 hx with rfl|hx
   ·have:=hq.1 _ (getD_mem (d:=0) j3);omega
   ·obtain⟨i,hi,rfl⟩:=List.getElem_of_mem hx
    simp at hi
    have m1:=h1 i (by omega)
    rw[List.getElem_take]
    rw[List.getD_eq_getElem?_getD,List.getElem?_eq_getElem (by omega)]at m1
    have m2:=hq.1 _ (List.getElem_mem (l:=p) (show i<p.length by omega))
    simp only[Option.getD_some]at m1
    omega
  simp at l1;omega
theorem spG_pt {p:List Int} (hp:permB p=true):∀{k:Nat},k≤p.length→spG ptI p k=spG shI p k
 |0,_=>rfl
 |k+1,h=>by
  have ih:=spG_pt hp (k:=k) (by omega)
  rw[spG,spG,ih]
  split
  ·rename_i e
   have hm:=maxI_le (g:=shI) h
   have e2:(spG shI p (k+1)).2.2=max (spG shI p k).2.2 (p.getD k 0):=by rw[spG];split<;>rfl
   have hf:=(spG_from (g:=shI) (p:=p) (k:=k)).1
   have hx:=seg_fill hp (f:=(spG shI p k).2.1) (b:=k+1) h (by omega) (spG_fill hp (by omega)) (fun j hj=>by have:=hm j hj;push_cast;omega)
   have:ptI (segL p (spG shI p k).2.1 (k+1)) (spG shI p k).2.1=shI (segL p (spG shI p k).2.1 (k+1)) (spG shI p k).2.1:=patL_shift (nodup_take (permB_iff.1 hp).2) hx
   rw[this]
  ·rfl
theorem flat_take {L:List (List Int)} {k:Nat} (h:k<L.length):(L.take (k+1)).flatten=(L.take k).flatten++L.getD k []:=by
 rw[take_getD (d:=[]) h,List.flatten_append];simp
theorem flat_le {L:List (List Int)} {n:Nat} (hl:∀l∈L,l.length≤n):∀{k:Nat},k≤L.length→(L.take k).flatten.length≤k*n
 |0,_=>by simp
 |k+1,h=>by
  have h1:=flat_le hl (k:=k) (by omega)
  have h2:=hl _ (getD_mem (d:=[]) (show k<L.length by omega))
  rw[flat_take (by omega),List.length_append,Nat.succ_mul];omega
def sgCc:FuncId→List Bool:=fun f=>if f=150 then[true]else[]
theorem sgCc_eq {f:FuncId}:sgCc f=if f=150 then[true]else[]:=_root_.id rfl
theorem way_sgCc:wayE sgCc=false∧wayN sgCc=false∧wayS sgCc=false∧wayZ sgCc=false∧wayM sgCc=false:=⟨rfl,rfl,rfl,rfl,rfl⟩
attribute [go_sem] sgCc_eq way_sgCc
theorem slices_Concat_int_int_c {e0 m0:Bool} (L:List (List Int)) (hL:L.length≤1000) (hl:∀l∈L,l.length≤1000):Fun Tryz.prog 148 [(.sl (.lent m0) (List.map (elI e0) (L)))] [(.sl .own (List.map (PV.int .i64) (L.flatten)))]:=by
 refine fO sgCc [2] Tryz.func148 ?_
 refine dEa trivial ?_
 all_goals try (refine zlf ?_;repeat' first|exact zso|refine And.intro ?_ ?_|(refine zim ?_;intro zb hc)|(refine zin ?_;intro zb)|intro j')
 all_goals try refine zbx ?_
 refine v_loopB (fun ms1 S1=>∃(k:Nat),S1.e 0=.p (.sl (.lent m0) (List.map (elI e0) (L)))∧S1.e 9=.p (.sl (.lent m0) (List.map (elI e0) (L)))∧S1.e 10=.p (.int .i64 (L.length))∧S1.e 11=.p (.int .i64 (k))∧S1.e 3=.p (.int .i64 ((L.take k).flatten.length))∧(k≤L.length)∧ms1=L.length - k) ((fun(k:Nat)=>L.length - k) (0)) ?_ ⟨0,dI trivial ?_⟩
 all_goals try (refine zlf ?_;repeat' first|exact zso|refine And.intro ?_ ?_|(refine zim ?_;intro zb hc)|(refine zin ?_;intro zb)|intro j')
 all_goals try refine zbx ?_
 rintro ms1 S1 ⟨k,h1_0,h1_9,h1_10,h1_11,h1_3,c1_0,hm1⟩
 have fL1:=(And.intro h1_0 (And.intro h1_9 (And.intro h1_10 (And.intro h1_11 h1_3))))
 have b1:=flat_le hl c1_0
 have b2:=Nat.mul_le_mul c1_0 (Nat.le_refl 1000)
 have b3:k<L.length→(L.getD k []).length≤1000:=fun h=>hl _ (getD_mem h)
 have cX1:= @slices_Grow_d
 refine dE fL1 ?_
 all_goals try (refine zlf ?_;repeat' first|exact zso|refine And.intro ?_ ?_|(refine zim ?_;intro zb hc)|(refine zin ?_;intro zb)|intro j')
 all_goals try refine zbx ?_
 all_goals try have b4:=b3 (by omega)
 all_goals try exact zaut
 ·focus
   refine q_lp_n ((fun(k:Nat)=>L.length - k) (k+1)) (dC fL1 ?_) ⟨k+1,dC fL1 ?_⟩
   all_goals try (refine zlf ?_;repeat' first|exact zso|refine And.intro ?_ ?_|(refine zim ?_;intro zb hc)|(refine zin ?_;intro zb)|intro j')
   all_goals try refine zbx ?_
  rw[flat_take (by omega),List.length_append];push_cast;rfl
 ·refine v_loopB (fun ms2 S2=>∃(j:Nat),S2.e 25=.p (.sl (.lent m0) (List.map (elI e0) (L)))∧S2.e 26=.p (.int .i64 (L.length))∧S2.e 27=.p (.int .i64 (j))∧OwnL (S2.e 6) S2.h S2.n (PV.int .i64) (((L.take j).flatten).length) ((L.take j).flatten)∧(j≤L.length)∧S1.n≤S2.n∧ms2=L.length - j) ((fun(j:Nat)=>L.length - j) (0)) ?_ ⟨0,dI fL1 ?_⟩
  all_goals try (refine zlf ?_;repeat' first|exact zso|refine And.intro ?_ ?_|(refine zim ?_;intro zb hc)|(refine zin ?_;intro zb)|intro j')
  all_goals try refine zbx ?_
  rintro ms2 S2 ⟨j,h2_25,h2_26,h2_27,o2_6,c2_0,u2_0,hm2⟩
  obtain⟨i2_6,h2_6,b2_6,l2_6⟩:=o2_6.out
  have ni2_6:=znds (x:=i2_6) (n:=S2.n)
  have fL2:=(And.intro h2_25 (And.intro h2_26 (And.intro h2_27 (And.intro h2_6 (And.intro b2_6 ni2_6)))))
  have b5:=flat_le hl c2_0
  have b6:=Nat.mul_le_mul c2_0 (Nat.le_refl 1000)
  have b7:j<L.length→(L.getD j []).length≤1000:=fun h=>hl _ (getD_mem h)
  have cX1:=trivial
  refine dE fL2 ?_
  all_goals try (refine zlf ?_;repeat' first|exact zso|refine And.intro ?_ ?_|(refine zim ?_;intro zb hc)|(refine zin ?_;intro zb)|intro j')
  all_goals try refine zbx ?_
  all_goals try have b8:=b7 (by omega)
  all_goals try exact zaut
  ·focus
    refine q_lp_n ((fun(j:Nat)=>L.length - j) (j+1)) (dC fL2 ?_) ⟨j+1,dC fL2 ?_⟩
    all_goals try (refine zlf ?_;repeat' first|exact zso|refine And.intro ?_ ?_|(refine zim ?_;intro zb hc)|(refine zin ?_;intro zb)|intro j')
    all_goals try refine zbx ?_
   all_goals(rw[flat_take (by omega)]<;>simp only[List.length_append])
  ·rw[List.take_of_length_le (by omega)]
theorem cc2 {m e1 e2:Bool} (a b:List Int) (ha:a.length≤1000) (hb:b.length≤1000):Fun Tryz.prog 148 [.sl (.lent m) [.sl (.lent e1) (a.map (PV.int .i64)),.sl (.lent e2) (b.map (PV.int .i64))]] [.sl .own ((a++b).map (PV.int .i64))]:=by
 have h:=slices_Concat_int_int_c (m0:=true) (e0:=true) [a,b] (by simp) (fun l hl=>by simp at hl;rcases hl with rfl|rfl<;>assumption)
 simp only[List.flatten_cons,List.flatten_nil,List.append_nil]at h
 refine Fun.wk ?_ h
 have hi:∀a:Int,wk (PV.int .i64 a)=PV.int .i64 a:=fun _=>rfl
 cases m<;>cases e1<;>cases e2<;>simp[wkL,wk,Fl.lent,wkL_map hi,elI]
def sumP (a b:List Int) (skew:Bool):List Int:=if skew then a.map (fun x=>x+(b.length:Int))++b else a++b.map (fun x=>x+(a.length:Int))
theorem sumP_len {a b:List Int} {k:Bool}:(sumP a b k).length=a.length+b.length:=by cases k<;>simp[sumP]
theorem impl_sum_c {m0 m1:Bool} (a:List Int) (b:List Int) (k:Bool) (h1:a.length≤1000) (h2:b.length≤1000) (h3:∀x∈a, -1000000≤x∧x≤1000000) (h4:∀x∈b, -1000000≤x∧x≤1000000):Fun Tryz.prog 143 [(.sl (.lent m0) (List.map (PV.int .i64) (a))),(.sl (.lent m1) (List.map (PV.int .i64) (b))),(.bool (k))] [(.sl .own (List.map (PV.int .i64) (sumP a b k)))]:=by
 refine fO sg0 [6] Tryz.func143 ?_
 have cE1:= @impl_raised_c;have cE2:= @slices_Concat_int_int_c
 have cE1:= @cc2;have cE2:= @impl_raised_c;have cE3:= @slices_Concat_int_int_c
 refine dEa trivial ?_
 all_goals try (refine zlf ?_;repeat' first|exact zso|refine And.intro ?_ ?_|(refine zim ?_;intro zb hc)|(refine zin ?_;intro zb)|intro j')
 all_goals try refine zbx ?_
 all_goals(subst hc;simp[sumP])
theorem add_perm {a b:List Int} {n:Nat} (ha:permB a=true) (hb:permB b=true) (e:n=b.length):(a.map fun x=>x+(n:Int)).Nodup∧(∀x∈a.map fun x=>x+(n:Int),(b.length:Int)<x∧x≤a.length+b.length):=by
 subst e
 obtain⟨a1,a2⟩:=permB_iff.1 ha
 refine⟨nodup_map a2 fun x _ y _ h=>by omega,fun x hx=> ?_⟩
 obtain⟨y,hy,rfl⟩:=List.mem_map.1 hx
 have:=a1 y hy
 omega
theorem sumP_perm {a b:List Int} {k:Bool} (ha:permB a=true) (hb:permB b=true):permB (sumP a b k)=true:=by
 rw[permB_iff,sumP_len]
 obtain⟨a1,a2⟩:=permB_iff.1 ha
 obtain⟨b1,b2⟩:=permB_iff.1 hb
 cases k
 ·obtain⟨h1,h2⟩:=add_perm (n:=a.length) hb ha rfl
  simp only[sumP,Bool.false_eq_true,if_false]
  refine⟨fun x hx=> ?_,List.nodup_append.2 ⟨a2,h1,fun x hx y hy e=> ?_⟩⟩
  ·rcases List.mem_append.1 hx with hx|hx
   ·have:=a1 x hx;omega
   ·have:=h2 x hx;omega
  ·have:=a1 x hx;have:=h2 y hy;omega
 ·obtain⟨h1,h2⟩:=add_perm (n:=b.length) ha hb rfl
  simp only[sumP,if_true]
  refine⟨fun x hx=> ?_,List.nodup_append.2 ⟨h1,b2,fun x hx y hy e=> ?_⟩⟩
  ·rcases List.mem_append.1 hx with hx|hx
   ·have:=h2 x hx;omega
   ·have:=b1 x hx;omega
  ·have:=h2 x hx;have:=b1 y hy;omega
def joinL (L:List (List Int)) (k:Bool):List Int:=L.foldl (fun t p=>sumP t p k) []
theorem joinL_succ {L:List (List Int)} {k:Bool} {j:Nat} (h:j<L.length):joinL (L.take (j+1)) k=sumP (joinL (L.take j) k) (L.getD j []) k:=by
 rw[take_getD (d:=[]) h,joinL,List.foldl_append];rfl
def lenS (L:List (List Int)):Nat:=(L.map List.length).sum
theorem lenS_succ {L:List (List Int)} {j:Nat} (h:j<L.length):lenS (L.take (j+1))=lenS (L.take j)+(L.getD j []).length:=by
 rw[take_getD (d:=[]) h,lenS,List.map_append,List.sum_append];simp[lenS]
theorem joinL_len {L:List (List Int)} {k:Bool}:∀{j:Nat},j≤L.length→(joinL (L.take j) k).length=lenS (L.take j)
 |0,_=>rfl
 |j+1,h=>by rw[joinL_succ (by omega),lenS_succ (by omega),sumP_len,joinL_len (by omega)]
theorem joinL_perm {L:List (List Int)} {k:Bool} (hL:∀l∈L,permB l=true):∀{j:Nat},j≤L.length→permB (joinL (L.take j) k)=true
 |0,_=>by rfl
 |j+1,h=>by rw[joinL_succ (by omega)];exact sumP_perm (joinL_perm hL (by omega)) (hL _ (getD_mem (by omega)))
theorem lenS_take {L:List (List Int)}:∀{j:Nat},lenS (L.take j)≤lenS L:=fun {j}=>by
 have:lenS L=lenS (L.take j)+lenS (L.drop j):=by
  unfold lenS;rw[←List.sum_append,←List.map_append,List.take_append_drop]
 omega
theorem lenS_drop {L:List (List Int)}:∀{j:Nat},lenS (L.drop j)≤lenS L:=fun {j}=>by
 have:lenS L=lenS (L.take j)+lenS (L.drop j):=by
  unfold lenS;rw[←List.sum_append,←List.map_append,List.take_append_drop]
 omega
theorem lenS_mem {L:List (List Int)} {l:List Int} (h:l∈L):l.length≤lenS L:=by
 induction L with
 |nil=>cases h
 |cons x L ih=>
  have e:lenS (x::L)=x.length+lenS L:=by simp[lenS]
  rcases List.mem_cons.1 h with rfl|h
  ·omega
  ·have:=ih h;omega
theorem joinL_b {L:List (List Int)} {k:Bool} (hl:∀l∈L,l.length≤8) (hb:∀l∈L,∀x∈l,0≤x∧x≤8):∀{j:Nat},j≤L.length→j≤8→(joinL (L.take j) k).length≤8*j∧∀x∈joinL (L.take j) k,0≤x∧x≤100*j
 |0,_,_=>⟨Nat.zero_le _,fun x hx=>by cases hx⟩
 |j+1,h,h8=>by
  obtain⟨h1,h2⟩:=joinL_b (k:=k) hl hb (j:=j) (by omega) (by omega)
  have h3:=hl _ (getD_mem (d:=[]) (show j<L.length by omega))
  have h4:=hb _ (getD_mem (d:=[]) (show j<L.length by omega))
  rw[joinL_succ (by omega)]
  refine⟨by rw[sumP_len];omega,fun x hx=> ?_⟩
  cases k
  ·simp only[sumP,Bool.false_eq_true,if_false,List.mem_append,List.mem_map]at hx
   rcases hx with hx|⟨y,hy,rfl⟩
   ·have:=h2 x hx;omega
   ·have:=h4 y hy;omega
  ·simp only[sumP,if_true,List.mem_append,List.mem_map]at hx
   rcases hx with⟨y,hy,rfl⟩|hx
   ·have:=h2 y hy;omega
   ·have:=h4 x hx;omega
theorem impl_joinParts_c {e0 m0:Bool} (L:List (List Int)) (k:Bool) (hL:L.length≤8) (hl:∀l∈L,l.length≤8) (hb:∀l∈L,∀x∈l,0≤x∧x≤8):Fun Tryz.prog 133 [(.sl (.lent m0) (List.map (elI e0) (L))),(.bool (k))] [(.sl .own (List.map (PV.int .i64) (joinL L k)))]:=by
 refine fO sg0 [4] Tryz.func133 ?_
 have cE1:= @impl_sum_c
 refine dEa trivial ?_
 all_goals try (refine zlf ?_;repeat' first|exact zso|refine And.intro ?_ ?_|(refine zim ?_;intro zb hc)|(refine zin ?_;intro zb)|intro j')
 all_goals try refine zbx ?_
 refine v_loopB (fun ms1 S1=>∃(j:Nat),S1.e 1=.p (.bool (k))∧S1.e 9=.p (.sl (.lent m0) (List.map (elI e0) (L)))∧S1.e 10=.p (.int .i64 (L.length))∧S1.e 11=.p (.int .i64 (j))∧OwnL (S1.e 5) S1.h S1.n (PV.int .i64) ((joinL (L.take j) k).length) (joinL (L.take j) k)∧(j≤L.length)∧ms1=L.length - j) ((fun(j:Nat)=>L.length - j) (0)) ?_ ⟨0,dI trivial ?_⟩
 all_goals try (refine zlf ?_;repeat' first|exact zso|refine And.intro ?_ ?_|(refine zim ?_;intro zb hc)|(refine zin ?_;intro zb)|intro j')
 all_goals try refine zbx ?_
 rintro ms1 S1 ⟨j,h1_1,h1_9,h1_10,h1_11,o1_5,c1_0,hm1⟩
 obtain⟨i1_5,h1_5,b1_5,l1_5⟩:=o1_5.out
 have ni1_5:=znds (x:=i1_5) (n:=S1.n)
 have fL1:=(And.intro h1_1 (And.intro h1_9 (And.intro h1_10 (And.intro h1_11 (And.intro h1_5 (And.intro b1_5 ni1_5))))))
 obtain⟨b1,b2⟩:=joinL_b (k:=k) hl hb c1_0 (by omega)
 have b3:j<L.length→(L.getD j []).length≤8∧∀x∈L.getD j [],0≤x∧x≤8:=fun h=>⟨hl _ (getD_mem h),hb _ (getD_mem h)⟩
 have b4:∀x∈joinL (L.take j) k, -1000000≤x∧x≤1000000:=fun x hx=>by have:=b2 x hx;omega
 refine dE fL1 ?_
 all_goals try (refine zlf ?_;repeat' first|exact zso|refine And.intro ?_ ?_|(refine zim ?_;intro zb hc)|(refine zin ?_;intro zb)|intro j')
 all_goals try refine zbx ?_
 all_goals try have b5:=(b3 (by omega)).1
 all_goals try have b6:=(b3 (by omega)).2
 all_goals try have b7:∀x∈L.getD j [], -1000000≤x∧x≤1000000:=fun x hx=>by have:=b6 x hx;omega
 all_goals try exact zaut
 ·focus
   refine q_lp_n ((fun(j:Nat)=>L.length - j) (j+1)) (dC fL1 ?_) ⟨j+1,dC fL1 ?_⟩
   all_goals try (refine zlf ?_;repeat' first|exact zso|refine And.intro ?_ ?_|(refine zim ?_;intro zb hc)|(refine zin ?_;intro zb)|intro j')
   all_goals try refine zbx ?_
  all_goals(rw[joinL_succ (by omega)])
 ·rw[List.take_of_length_le (by omega)]
def sumPt (p:List Int):List (List Int):=(spG shI p p.length).1
def mixC (L:List (List Int)) (j:Nat):List (List Int):=(L.take j).map cplL++L.drop j
theorem mixC_len {L:List (List Int)} {j:Nat}:(mixC L j).length=L.length:=by simp[mixC];omega
theorem mixC_at {L:List (List Int)} {j:Nat} (h:j<L.length):(mixC L j).getD j []=L.getD j []:=by
 simp only[mixC,List.getD_eq_getElem?_getD]
 rw[List.getElem?_append_right (by simp;omega)]
 simp[Nat.min_eq_left (Nat.le_of_lt h)]
theorem mixC_set {L:List (List Int)} {j:Nat} (h:j<L.length):(mixC L j).set j (cplL (L.getD j []))=mixC L (j+1):=by
 simp only[mixC]
 rw[List.set_append_right _ _ (by simp;omega),List.length_map,List.length_take,Nat.min_eq_left (by omega),Nat.sub_self,take_getD (d:=[]) h]
 rw[show L.drop j=L.getD j []::L.drop (j+1)by rw[List.getD_eq_getElem?_getD,List.getElem?_eq_getElem h];exact(List.drop_eq_getElem_cons h)]
 simp
theorem spG_parts {p:List Int} (hp:permB p=true):∀{k:Nat},k≤p.length→(∀l∈(spG ptI p k).1,permB l=true)∧lenS (spG ptI p k).1=(spG ptI p k).2.1
 |0,_=>⟨fun l hl=>(by cases hl),rfl⟩
 |k+1,h=>by
  obtain⟨h1,h2⟩:=spG_parts hp (k:=k) (by omega)
  have h3:=(spG_from (g:=ptI) (p:=p) (k:=k)).1
  rw[spG]
  split
  ·refine⟨fun l hl=> ?_, ?_⟩
   ·rcases List.mem_append.1 hl with hl|hl
    ·exact h1 l hl
    ·simp only[List.mem_singleton]at hl;subst hl
     exact patL_perm (nodup_take (permB_iff.1 hp).2)
   ·simp only[lenS]at h2 ⊢
    rw[List.map_append,List.sum_append,h2]
    simp[ptI,patL_len,segL_len h];omega
  ·exact⟨h1,h2⟩
theorem sumPt_pt {p:List Int} (hp:permB p=true):(spG ptI p p.length).1=sumPt p:=by rw[sumPt,spG_pt hp (Nat.le_refl _)]
theorem sumPt_f {p:List Int} (hp:isPermB p=true):(∀l∈sumPt p,permB l=true)∧lenS (sumPt p)≤8∧(sumPt p).length≤8∧(∀l∈sumPt p,isPermB l=true∧l.length≤8∧∀x∈l,0≤x∧x≤8):=by
 obtain⟨hl,hq⟩:=isPerm_facts hp
 obtain⟨h1,h2⟩:=spG_parts hq (Nat.le_refl _)
 have h3:=spG_from (g:=ptI) (p:=p) (k:=p.length)
 rw[sumPt_pt hq]at h1 h2 h3
 refine⟨h1,by omega,by omega,fun l hx=> ?_⟩
 have h4:=lenS_mem hx
 have h5:isPermB l=true:=by simp only[isPermB,h1 l hx,Bool.and_true,decide_eq_true_eq];omega
 exact⟨h5,by omega,perm_b8 h5⟩
theorem cplL_isPerm {p:List Int} (hp:isPermB p=true):isPermB (cplL p)=true:=by
 obtain⟨hl,hq⟩:=isPerm_facts hp
 simp only[isPermB,cplL_perm hq,cplL_len,hl,decide_true,Bool.and_self]
def skewPt (p:List Int):List (List Int):=(sumPt (cplL p)).map cplL
theorem impl_skewParts_c {m0:Bool} (p:List Int) (hp:isPermB p=true):Fun Tryz.prog 134 [(.sl (.lent m0) (List.map (PV.int .i64) (p)))] [(.sl .own (List.map (elI false) (skewPt p)))]:=by
 refine fO sg0 [2] Tryz.func134 ?_
 have cE1:= @impl_complement_c;have cE2:= @impl_sumParts_c
 have hl:=(isPerm_facts hp).1
 have hq:=permB_iff.1 (isPerm_facts hp).2
 have hb:=perm_b8 hp
 have b1:(cplL p).length≤8:=by rw[cplL_len];exact hl
 have b2:=perm_b8 (cplL_isPerm hp)
 have b3:=sumPt_f (cplL_isPerm hp)
 have b4:∀x∈p,0≤x∧x≤1048576:=fun x hx=>by have:=hb x hx;omega
 have b5:(spG shI (cplL p) (cplL p).length).1=sumPt (cplL p):=rfl
 refine dEa @b5 ?_
 all_goals try (refine zlf ?_;repeat' first|exact zso|refine And.intro ?_ ?_|(refine zim ?_;intro zb hc)|(refine zin ?_;intro zb)|intro j')
 all_goals try refine zbx ?_
 refine v_loopB (fun ms1 S1=>∃(j:Nat),OwnL (S1.e 3) S1.h S1.n (elI false) ((mixC (sumPt (cplL p)) j).length) (mixC (sumPt (cplL p)) j)∧S1.e 9=S1.e 3∧S1.e 10=.p (.int .i64 ((sumPt (cplL p)).length))∧S1.e 11=.p (.int .i64 (j))∧(j≤(sumPt (cplL p)).length)∧ms1=(sumPt (cplL p)).length - j) ((fun(j:Nat)=>(sumPt (cplL p)).length - j) (0)) ?_ ⟨0,dC trivial ?_⟩
 all_goals try (refine zlf ?_;repeat' first|exact zso|refine And.intro ?_ ?_|(refine zim ?_;intro zb hc)|(refine zin ?_;intro zb)|intro j')
 all_goals try refine zbx ?_
 rintro ms1 S1 ⟨j,o1_3,h1_9,h1_10,h1_11,c1_0,hm1⟩
 obtain⟨i1_3,h1_3,b1_3,l1_3⟩:=o1_3.out
 have ni1_3:=znds (x:=i1_3) (n:=S1.n)
 have fL1:=(And.intro h1_9 (And.intro h1_10 (And.intro h1_11 (And.intro h1_3 (And.intro b1_3 ni1_3)))))
 have b6:=mixC_len (L:=sumPt (cplL p)) (j:=j)
 have b7:j<(sumPt (cplL p)).length→(mixC (sumPt (cplL p)) j).getD j []=(sumPt (cplL p)).getD j []:=fun h=>mixC_at h
 have b8:j<(sumPt (cplL p)).length→((sumPt (cplL p)).getD j []).length≤8∧∀x∈(sumPt (cplL p)).getD j [],0≤x∧x≤1048576:=fun h=>⟨(b3.2.2.2 _ (getD_mem h)).2.1,fun x hx=>by have:=(b3.2.2.2 _ (getD_mem h)).2.2 x hx;omega⟩
 by_cases hj:j<(sumPt (cplL p)).length
 ·have b9:=b8 hj
  have b10:=b7 hj
  rw[←b10]at b9
  have b11:=b9.1
  have b12:=b9.2
  refine dEa fL1 ?_
  all_goals try (refine zlf ?_;repeat' first|exact zso|refine And.intro ?_ ?_|(refine zim ?_;intro zb hc)|(refine zin ?_;intro zb)|intro j')
  all_goals try refine zbx ?_
  focus
   refine q_lp_n ((fun(j:Nat)=>(sumPt (cplL p)).length - j) (j+1)) (dC fL1 ?_) ⟨j+1,dC fL1 ?_⟩
   all_goals try (refine zlf ?_;repeat' first|exact zso|refine And.intro ?_ ?_|(refine zim ?_;intro zb hc)|(refine zin ?_;intro zb)|intro j')
   all_goals try refine zbx ?_
  all_goals(first|(rw[b10,mixC_set hj])|(rw[mixC_len,mixC_len]))
 ·refine dEa fL1 ?_
  all_goals try (refine zlf ?_;repeat' first|exact zso|refine And.intro ?_ ?_|(refine zim ?_;intro zb hc)|(refine zin ?_;intro zb)|intro j')
  all_goals try refine zbx ?_
  obtain rfl:j=(sumPt (cplL p)).length:=by omega
  simp[mixC,skewPt]
theorem spec_l4Join_c {m0 m1:Bool} (a:List Int) (b:List Int) (k:Bool) (h1:a.length≤1000) (h2:b.length≤1000) (h3:∀x∈a, -1000000≤x∧x≤1000000) (h4:∀x∈b, -1000000≤x∧x≤1000000):Fun Tryz.prog 129 [(.sl (.lent m0) (List.map (PV.int .i64) (a))),(.sl (.lent m1) (List.map (PV.int .i64) (b))),(.bool (k))] [(.sl .own (List.map (PV.int .i64) (sumP a b k)))]:=by
 refine fO sg0 [6] Tryz.func129 ?_
 have cE1:= @spec_l1Bit_c;have cD1:=zdh [false,false,false,false,false,false,true,false,false,false,false,true,true,false] [(0,6),(1,6),(2,6),(3,6),(4,6),(6,7),(6,8),(0,11)];have cD2:=zdh [false,false,false,false,false,false,false,true,false,false,false,false,true,true,false] [(0,7),(1,7),(2,7),(3,7),(4,7),(7,8),(7,9),(0,12)]
 have e1:bitI k=if k then 1 else 0:=rfl
 refine dEa trivial ?_
 all_goals try (refine zlf ?_;repeat' first|exact zso|refine And.intro ?_ ?_|(refine zim ?_;intro zb hc)|(refine zin ?_;intro zb)|intro j')
 all_goals try refine zbx ?_
 refine v_loopB (fun ms1 S1=>∃(i:Nat),S1.e 0=.p (.sl (.lent m0) (List.map (PV.int .i64) (a)))∧S1.e 1=.p (.sl (.lent m1) (List.map (PV.int .i64) (b)))∧S1.e 2=.p (.bool (k))∧S1.e 8=.p (.int .i64 (i))∧OwnL (S1.e 7) S1.h S1.n (PV.int .i64) (((a.take i).map (fun x=>x+bitI k*b.length)).length) ((a.take i).map (fun x=>x+bitI k*b.length))∧(i≤a.length)∧ms1=a.length - i) ((fun(i:Nat)=>a.length - i) (0)) ?_ ⟨0,dI trivial ?_⟩
 all_goals try (refine zlf ?_;repeat' first|exact zso|refine And.intro ?_ ?_|(refine zim ?_;intro zb hc)|(refine zin ?_;intro zb)|intro j')
 all_goals try refine zbx ?_
 rintro ms1 S1 ⟨i,h1_0,h1_1,h1_2,h1_8,o1_7,c1_0,hm1⟩
 obtain⟨i1_7,h1_7,b1_7,l1_7⟩:=o1_7.out
 have ni1_7:=znds (x:=i1_7) (n:=S1.n)
 have fL1:=(And.intro h1_0 (And.intro h1_1 (And.intro h1_2 (And.intro h1_8 (And.intro h1_7 (And.intro b1_7 ni1_7))))))
 have b1:i<a.length→ -1000000≤a.getD i 0∧a.getD i 0≤1000000:=fun h=>h3 _ (getD_mem h)
 have b2:0≤bitI k*(b.length:Int)∧bitI k*(b.length:Int)≤1000:=by cases k<;>simp[bitI]<;>omega
 refine dE fL1 ?_
 all_goals try (refine zlf ?_;repeat' first|exact zso|refine And.intro ?_ ?_|(refine zim ?_;intro zb hc)|(refine zin ?_;intro zb)|intro j')
 all_goals try refine zbx ?_
 all_goals try have b3:=b1 (by omega)
 all_goals try exact zaut
 ·focus
   refine q_lp_n ((fun(i:Nat)=>a.length - i) (i+1)) (dC fL1 ?_) ⟨i+1,dC fL1 ?_⟩
   all_goals try (refine zlf ?_;repeat' first|exact zso|refine And.intro ?_ ?_|(refine zim ?_;intro zb hc)|(refine zin ?_;intro zb)|intro j')
   all_goals try refine zbx ?_
  all_goals(rw[take_getD (d:=0) (by omega),List.map_append];rfl)
 ·refine v_loopB (fun ms2 S2=>∃(j:Nat),S2.e 0=.p (.sl (.lent m0) (List.map (PV.int .i64) (a)))∧S2.e 1=.p (.sl (.lent m1) (List.map (PV.int .i64) (b)))∧S2.e 2=.p (.bool (k))∧S2.e 9=.p (.int .i64 (j))∧OwnL (S2.e 7) S2.h S2.n (PV.int .i64) ((a.map (fun x=>x+bitI k*b.length)++(b.take j).map (fun x=>x+bitI (!k)*a.length)).length) (a.map (fun x=>x+bitI k*b.length)++(b.take j).map (fun x=>x+bitI (!k)*a.length))∧(j≤b.length)∧S1.n≤S2.n∧ms2=b.length - j) ((fun(j:Nat)=>b.length - j) (0)) ?_ ⟨0,dI fL1 ?_⟩
  all_goals try (refine zlf ?_;repeat' first|exact zso|refine And.intro ?_ ?_|(refine zim ?_;intro zb hc)|(refine zin ?_;intro zb)|intro j')
  all_goals try refine zbx ?_
  rintro ms2 S2 ⟨j,h2_0,h2_1,h2_2,h2_9,o2_7,c2_0,u2_0,hm2⟩
  obtain⟨i2_7,h2_7,b2_7,l2_7⟩:=o2_7.out
  have ni2_7:=znds (x:=i2_7) (n:=S2.n)
  have fL2:=(And.intro h2_0 (And.intro h2_1 (And.intro h2_2 (And.intro h2_9 (And.intro h2_7 (And.intro b2_7 ni2_7))))))
  have b4:j<b.length→ -1000000≤b.getD j 0∧b.getD j 0≤1000000:=fun h=>h4 _ (getD_mem h)
  have b5:0≤bitI (!k)*(a.length:Int)∧bitI (!k)*(a.length:Int)≤1000:=by cases k<;>simp[bitI]<;>omega
  refine dE fL2 ?_
  all_goals try (refine zlf ?_;repeat' first|exact zso|refine And.intro ?_ ?_|(refine zim ?_;intro zb hc)|(refine zin ?_;intro zb)|intro j')
  all_goals try refine zbx ?_
  all_goals try have b6:=b4 (by omega)
  all_goals try exact zaut
  ·focus
    refine q_lp_n ((fun(j:Nat)=>b.length - j) (j+1)) (dC fL2 ?_) ⟨j+1,dC fL2 ?_⟩
    all_goals try (refine zlf ?_;repeat' first|exact zso|refine And.intro ?_ ?_|(refine zim ?_;intro zb hc)|(refine zin ?_;intro zb)|intro j')
    all_goals try refine zbx ?_
   all_goals(rw[take_getD (d:=0) (by omega),List.map_append];try rfl)
  ·rw[List.take_of_length_le (by omega)]
   cases k<;>simp[sumP,bitI]
  all_goals(rw[List.take_of_length_le (by omega)];try simp)
theorem spec_l4Fit_c {m0 m1:Bool} (a:List Int) (b:List Int) (h1:a.length≤1048576) (h2:b.length≤1048576):Fun Tryz.prog 128 [(.sl (.lent m0) (List.map (PV.int .i64) (a))),(.sl (.lent m1) (List.map (PV.int .i64) (b)))] [(.bool ((isPermB a&&isPermB b&&decide (a.length+b.length≤8))))]:=by
 refine fO sg0 [4] Tryz.func128 ?_
 have cE1:= @spec_IsPerm_c
 refine dEa trivial ?_
 all_goals try (refine zlf ?_;repeat' first|exact zso|refine And.intro ?_ ?_|(refine zim ?_;intro zb hc)|(refine zin ?_;intro zb)|intro j')
 all_goals try refine zbx ?_
 all_goals(congr 1;exact propext (by omega))
theorem fit_j {L:List (List Int)} {k:Bool} (hL:∀l∈L,permB l=true) (h8:lenS L≤8) {j:Nat} (h:j<L.length):isPermB (joinL (L.take j) k)=true∧isPermB (L.getD j [])=true∧(joinL (L.take j) k).length+(L.getD j []).length≤8:=by
 have h1:=joinL_len (k:=k) (show j≤L.length by omega)
 have h2:=lenS_succ h
 have h3:=lenS_take (L:=L) (j:=j+1)
 have h4:=joinL_perm (k:=k) hL (show j≤L.length by omega)
 have h5:=hL _ (getD_mem (d:=[]) h)
 refine⟨?_, ?_,by omega⟩
 ·simp only[isPermB,h4,Bool.and_true,decide_eq_true_eq];omega
 ·simp only[isPermB,h5,Bool.and_true,decide_eq_true_eq];omega
theorem spec_JoinParts_c {e0 m0:Bool} (L:List (List Int)) (k:Bool) (hL:L.length≤8) (hp:∀l∈L,permB l=true) (h8:lenS L≤8):Fun Tryz.prog 108 [(.sl (.lent m0) (List.map (elI e0) (L))),(.bool (k))] [(.sl .own (List.map (PV.int .i64) (joinL L k))),(.bool (true))]:=by
 refine fO sg0 [4,5] Tryz.func108 ?_
 have cE1:= @spec_l4Fit_c;have cE2:= @spec_l4Join_c
 refine dEa trivial ?_
 all_goals try (refine zlf ?_;repeat' first|exact zso|refine And.intro ?_ ?_|(refine zim ?_;intro zb hc)|(refine zin ?_;intro zb)|intro j')
 all_goals try refine zbx ?_
 refine v_loopB (fun ms1 S1=>∃(j:Nat),S1.e 0=.p (.sl (.lent m0) (List.map (elI e0) (L)))∧S1.e 1=.p (.bool (k))∧S1.e 7=.p (.int .i64 (j))∧OwnL (S1.e 6) S1.h S1.n (PV.int .i64) ((joinL (L.take j) k).length) (joinL (L.take j) k)∧(j≤L.length)∧ms1=L.length - j) ((fun(j:Nat)=>L.length - j) (0)) ?_ ⟨0,dC trivial ?_⟩
 all_goals try (refine zlf ?_;repeat' first|exact zso|refine And.intro ?_ ?_|(refine zim ?_;intro zb hc)|(refine zin ?_;intro zb)|intro j')
 all_goals try refine zbx ?_
 rintro ms1 S1 ⟨j,h1_0,h1_1,h1_7,o1_6,c1_0,hm1⟩
 obtain⟨i1_6,h1_6,b1_6,l1_6⟩:=o1_6.out
 have ni1_6:=znds (x:=i1_6) (n:=S1.n)
 have fL1:=(And.intro h1_0 (And.intro h1_1 (And.intro h1_7 (And.intro h1_6 (And.intro b1_6 ni1_6)))))
 by_cases hj:j<L.length
 ·obtain⟨b1,b2,b3⟩:=fit_j (k:=k) hp h8 hj
  have b4:=(isPerm_facts b1).1
  have b5:=(isPerm_facts b2).1
  have b6:∀x∈joinL (L.take j) k, -1000000≤x∧x≤1000000:=fun x hx=>by have:=perm_b8 b1 x hx;omega
  have b7:∀x∈L.getD j [], -1000000≤x∧x≤1000000:=fun x hx=>by have:=perm_b8 b2 x hx;omega
  have b8:decide ((joinL (L.take j) k).length+(L.getD j []).length≤8)=true:=decide_eq_true b3
  refine dEa (And.intro fL1 (And.intro @b1 (And.intro @b2 @b8))) ?_
  all_goals try (refine zlf ?_;repeat' first|exact zso|refine And.intro ?_ ?_|(refine zim ?_;intro zb hc)|(refine zin ?_;intro zb)|intro j')
  all_goals try refine zbx ?_
  ·focus
    refine q_lp_n ((fun(j:Nat)=>L.length - j) (j+1)) (dC fL1 ?_) ⟨j+1,dC fL1 ?_⟩
    all_goals try (refine zlf ?_;repeat' first|exact zso|refine And.intro ?_ ?_|(refine zim ?_;intro zb hc)|(refine zin ?_;intro zb)|intro j')
    all_goals try refine zbx ?_
   all_goals(rw[joinL_succ (by omega)])
 ·refine dEa fL1 ?_
  all_goals try (refine zlf ?_;repeat' first|exact zso|refine And.intro ?_ ?_|(refine zim ?_;intro zb hc)|(refine zin ?_;intro zb)|intro j')
  all_goals try refine zbx ?_
  rw[List.take_of_length_le (by omega)]
theorem spec_SkewParts_c {m0:Bool} (p:List Int) (hp:isPermB p=true):Fun Tryz.prog 146 [(.sl (.lent m0) (List.map (PV.int .i64) (p)))] [(.sl .own (List.map (elI false) (skewPt p)))]:=by
 refine fO sg0 [2] Tryz.func146 ?_
 have cE1:= @spec_IsPerm_c;have cE2:= @spec_l3Complement_c;have cE3:= @spec_SumParts_c
 have hl:=(isPerm_facts hp).1
 have hq:=(isPerm_facts hp).2
 have hb:=perm_b8 hp
 have b1:=cplL_isPerm hp
 have b3:=sumPt_f (cplL_isPerm hp)
 have b4:∀x∈p,0≤x∧x≤1048576:=fun x hx=>by have:=hb x hx;omega
 have b5:(spG ptI (cplL p) (cplL p).length).1=sumPt (cplL p):=sumPt_pt (isPerm_facts b1).2
 refine dEa (And.intro @b5 @hp) ?_
 all_goals try (refine zlf ?_;repeat' first|exact zso|refine And.intro ?_ ?_|(refine zim ?_;intro zb hc)|(refine zin ?_;intro zb)|intro j')
 all_goals try refine zbx ?_
 refine v_loopB (fun ms1 S1=>∃(j:Nat),OwnL (S1.e 4) S1.h S1.n (elI false) ((sumPt (cplL p)).length) (sumPt (cplL p))∧S1.e 5=.p (.int .i64 (j))∧OwnL (S1.e 3) S1.h S1.n (elI false) ((((sumPt (cplL p)).take j).map cplL).length) (((sumPt (cplL p)).take j).map cplL)∧(j≤(sumPt (cplL p)).length)∧NId (S1.e 3) (S1.e 4)∧ms1=(sumPt (cplL p)).length - j) ((fun(j:Nat)=>(sumPt (cplL p)).length - j) (0)) ?_ ⟨0,dC trivial ?_⟩
 all_goals try (refine zlf ?_;repeat' first|exact zso|refine And.intro ?_ ?_|(refine zim ?_;intro zb hc)|(refine zin ?_;intro zb)|intro j')
 all_goals try refine zbx ?_
 rintro ms1 S1 ⟨j,o1_4,h1_5,o1_3,c1_0,u1_0,hm1⟩
 obtain⟨i1_4,h1_4,b1_4,l1_4⟩:=o1_4.out
 obtain⟨i1_3,h1_3,b1_3,l1_3⟩:=o1_3.out
 have k1_0:=(u1_0).out h1_3 h1_4
 have ni1_4:=znds (x:=i1_4) (n:=S1.n)
 have ni1_3:=znds (x:=i1_3) (n:=S1.n)
 have di1_4i1_3:=zdne (x:=i1_4) (y:=i1_3)
 have fL1:=(And.intro h1_5 (And.intro h1_4 (And.intro b1_4 (And.intro h1_3 (And.intro b1_3 (And.intro ni1_4 (And.intro ni1_3 di1_4i1_3)))))))
 have b8:j<(sumPt (cplL p)).length→((sumPt (cplL p)).getD j []).length≤8∧∀x∈(sumPt (cplL p)).getD j [],0≤x∧x≤1048576:=fun h=>⟨(b3.2.2.2 _ (getD_mem h)).2.1,fun x hx=>by have:=(b3.2.2.2 _ (getD_mem h)).2.2 x hx;omega⟩
 by_cases hj:j<(sumPt (cplL p)).length
 ·have b9:=b8 hj
  have b11:=b9.1
  have b12:=b9.2
  refine dEa fL1 ?_
  all_goals try (refine zlf ?_;repeat' first|exact zso|refine And.intro ?_ ?_|(refine zim ?_;intro zb hc)|(refine zin ?_;intro zb)|intro j')
  all_goals try refine zbx ?_
  focus
   refine q_lp_n ((fun(j:Nat)=>(sumPt (cplL p)).length - j) (j+1)) (dC fL1 ?_) ⟨j+1,dC fL1 ?_⟩
   all_goals try (refine zlf ?_;repeat' first|exact zso|refine And.intro ?_ ?_|(refine zim ?_;intro zb hc)|(refine zin ?_;intro zb)|intro j')
   all_goals try refine zbx ?_
  all_goals(rw[take_getD (d:=[]) hj,List.map_append];rfl)
 ·refine dEa fL1 ?_
  all_goals try (refine zlf ?_;repeat' first|exact zso|refine And.intro ?_ ?_|(refine zim ?_;intro zb hc)|(refine zin ?_;intro zb)|intro j')
  all_goals try refine zbx ?_
  obtain rfl:j=(sumPt (cplL p)).length:=by omega
  simp[skewPt]
theorem spec_l6Sum_c {m0:Bool} (L:List (List Int)) (k:Bool) (h0:1≤L.length) (hL:L.length≤8) (hp:∀l∈L,permB l=true) (h8:lenS L≤8):Fun Tryz.prog 145 [(.sl (.lent m0) (List.map (elI false) (L))),(.bool (k))] [(.agg [(.sl (.lent false) (List.map (PV.int .i64) ((if k then[2,1]else[1,2])))),(.sl (.lent false) (List.map (elI false) ([L.getD 0 [],joinL (L.drop 1) k])))])]:=by
 refine Fun.ofR (sg:=sg0) (rs:=[.cell 4 92]) mo Tryz.func145 rfl rfl rfl rfl (by kernel_rfl) (by simp only[go_sem]) rfl ?_
 have cE1:= @spec_JoinParts_c
 have b1:(L.drop 1).length≤8:=by simp;omega
 have b2:∀l∈L.drop 1,permB l=true:=fun l hl=>hp l (List.mem_of_mem_drop hl)
 have b3:lenS (L.drop 1)≤8:=Nat.le_trans lenS_drop h8
 have b4:=lenS_mem (getD_mem (d:=[]) (show 0<L.length by omega))
 refine dEa trivial ?_
 all_goals try (refine zlf ?_;repeat' first|exact zso|refine And.intro ?_ ?_|(refine zim ?_;intro zb hc)|(refine zin ?_;intro zb)|intro j')
 all_goals try refine zbx ?_
theorem oc_ptr:ofConst (Value.pointer none)=.any:=_root_.id rfl
theorem cur_g0 {b:List UInt8} {s:Cu}:(curC b s)[0]? =some (.sl (.lent false) (b.map u8P)):=_root_.id rfl
theorem cur_g1 {b:List UInt8} {s:Cu}:(curC b s)[1]? =some (.int .i64 s.i):=_root_.id rfl
theorem cur_g2 {b:List UInt8} {s:Cu}:(curC b s)[2]? =some (.int .i64 s.h):=_root_.id rfl
theorem cur_len {b:List UInt8} {s:Cu}:(curC b s).length=3:=_root_.id rfl
theorem cur_s1 {b:List UInt8} {s:Cu} {n:Nat}:(curC b s).set 1 (.int .i64 (n:Int))=curC b ⟨n,s.h⟩:=_root_.id rfl
theorem cur_s2 {b:List UInt8} {s:Cu} {n:Int}:(curC b s).set 2 (.int .i64 n)=curC b ⟨s.i,n⟩:=_root_.id rfl
attribute [go_sem] oc_ptr a_any cur_g0 cur_g1 cur_g2 cur_len cur_s1 cur_s2
def newH (b:List UInt8):Nat→Int
 |0=>26583+(b.length:Int)
 |k+1=>((((newH b k*131+((b.getD k 0).toNat:Int))+7).toNat&&& (1073741823:Int).toNat:Nat):Int)
theorem newH_r {b:List UInt8} (hb:b.length≤1048576):∀k,0≤newH b k∧newH b k≤1073741823
 |0=>by rw[newH];omega
 |k+1=>by
  have:=Nat.and_le_right (n:=((newH b k*131+((b.getD k 0).toNat:Int))+7).toNat) (m:=(1073741823:Int).toNat)
  rw[newH]
  omega
theorem u8_r (x:UInt8):x.toNat≤255:=by have:=x.toNat_lt;omega
theorem spec_l1New_c (b:List UInt8) (hb:b.length≤1048576):Fun Tryz.prog 35 [(.sl (.lent false) (List.map u8P (b)))] [(.bx (curC b ⟨0,newH b (min b.length 4000)⟩))]:=by
 refine fO sg0 [2] Tryz.func35 ?_
 have u5:(Tryz.prog.underlying 5).isSome=true:=by rw[Tryz.underlying5];rfl
 refine dEa trivial ?_
 all_goals try (refine zlf ?_;repeat' first|exact zso|refine And.intro ?_ ?_|(refine zim ?_;intro zb hc)|(refine zin ?_;intro zb)|intro j')
 all_goals try refine zbx ?_
 refine v_loopB (fun ms1 S1=>∃(k:Nat),S1.e 0=.p (.sl (.lent false) (List.map u8P (b)))∧S1.e 3=.p (.int .i64 (newH b k))∧S1.e 4=.p (.int .i64 (k))∧(k≤b.length)∧(k≤4000)∧ms1=b.length - k) ((fun(k:Nat)=>b.length - k) (0)) ?_ ⟨0,dC trivial ?_⟩
 all_goals try (refine zlf ?_;repeat' first|exact zso|refine And.intro ?_ ?_|(refine zim ?_;intro zb hc)|(refine zin ?_;intro zb)|intro j')
 all_goals try refine zbx ?_
 rintro ms1 S1 ⟨k,h1_0,h1_3,h1_4,c1_0,c1_1,hm1⟩
 have fL1:=(And.intro h1_0 (And.intro h1_3 h1_4))
 ·have q1:=newH_r hb k
  have q2:=u8_r (b.getD k 0)
  refine dEa (And.intro fL1 @u5) ?_
  all_goals try (refine zlf ?_;repeat' first|exact zso|refine And.intro ?_ ?_|(refine zim ?_;intro zb hc)|(refine zin ?_;intro zb)|intro j')
  all_goals try refine zbx ?_
  ·focus
    refine q_lp_n ((fun(k:Nat)=>b.length - k) (k+1)) (dC fL1 ?_) ⟨k+1,dC fL1 ?_⟩
    all_goals try (refine zlf ?_;repeat' first|exact zso|refine And.intro ?_ ?_|(refine zim ?_;intro zb hc)|(refine zin ?_;intro zb)|intro j')
    all_goals try refine zbx ?_
  ·rw[show min b.length 4000=k by omega];rfl
  ·rw[show min b.length 4000=k by omega];rfl
def byH (h:Int):Int:=IntKind.i64.wrap (IntKind.i64.wrap (h*6364136223846793005)+1442695040888963407)
def by0 (h:Int):Int:=andI .i64 (xorI .i64 ((byH h).fdiv (2^33)) ((byH h).fdiv (2^45))) 255
def byX (b:List UInt8) (s:Cu):Int:=if s.i<b.length then andI .i64 (IntKind.i64.wrap (by0 s.h+((b.getD s.i 0).toNat:Int))) 255 else by0 s.h
def byS (b:List UInt8) (s:Cu):Cu:=if s.i<b.length then⟨s.i+1,byH s.h⟩else⟨s.i,byH s.h⟩
theorem wrap64 {n:Int} (h0: -9223372036854775808≤n) (h1:n≤9223372036854775807):IntKind.i64.wrap n=n:=by
 unfold IntKind.wrap
 simp only[IntKind.bits,IntKind.signed,Bool.true_and]
 split
 ·rename_i h;simp at h;omega
 ·rename_i h;simp at h;omega
theorem andI_255 {x:Int}:0≤andI .i64 x 255∧andI .i64 x 255≤255:=by
 unfold andI
 generalize BitVec.ofInt IntKind.i64.bits x=y
 have h:(y&&& BitVec.ofInt IntKind.i64.bits 255).toNat≤255:=by
  rw[BitVec.toNat_and]
  exact Nat.and_le_right
 rw[wrap64 (by omega) (by omega)];omega
theorem byX_r {b:List UInt8} {s:Cu}:0≤byX b s∧byX b s≤255:=by
 unfold byX by0;split<;>exact andI_255
def sgBy:FuncId→List Bool:=fun f=>if f=4294967296 then[true]else[]
theorem sgBy_eq {f:FuncId}:sgBy f=if f=4294967296 then[true]else[]:=_root_.id rfl
theorem way_sgBy:wayE sgBy=true∧wayN sgBy=false∧wayS sgBy=false∧wayZ sgBy=false∧wayM sgBy=false:=⟨rfl,rfl,rfl,rfl,rfl⟩
attribute [go_sem] sgBy_eq way_sgBy
theorem spec_l1Byte_c (b:List UInt8) (s:Cu) (hb:b.length≤1048576):CallT Tryz.prog false 78 [.mu true (curC b s)] [some (curC b (byS b s))] [(.int .i64 (byX b s))]:=by
 have u5:(Tryz.prog.underlying 5).isSome=true:=by rw[Tryz.underlying5];rfl
 by_cases hi:s.i<b.length
 ·have e1:IntKind.i64.wrap ((s.i:Int)+1)=((s.i+1:Nat):Int):=by rw[wrap64 (by omega) (by omega)];omega
  have e2:byX b s=andI .i64 (IntKind.i64.wrap (by0 s.h+((b.getD s.i 0).toNat:Int))) 255:=if_pos hi
  have e3:byS b s=⟨s.i+1,byH s.h⟩:=if_pos hi
  have hu:=u8_r (b.getD s.i 0)
  rw[e2,e3]
  refine fX sgBy [2] Tryz.func78 ?_
  have cD1:=zdh [false,false,false,false,false,false,false,false,false,false,false,true,false,false,false] [(0,11)]
  refine dEa (And.intro @u5 @e1) ?_
  all_goals try (refine zlf ?_;repeat' first|exact zso|refine And.intro ?_ ?_|(refine zim ?_;intro zb hc)|(refine zin ?_;intro zb)|intro j')
  all_goals try refine zbx ?_
  all_goals rfl
 ·have e2:byX b s=by0 s.h:=if_neg hi
  have e3:byS b s=⟨s.i,byH s.h⟩:=if_neg hi
  rw[e2,e3]
  refine fX sgBy [2] Tryz.func78 ?_
  have cD1:=zdh [false,false,false,false,false,false,false,false,false,false,false,true,false,false,false] [(0,11)]
  refine dEa @u5 ?_
  all_goals try (refine zlf ?_;repeat' first|exact zso|refine And.intro ?_ ?_|(refine zim ?_;intro zb hc)|(refine zin ?_;intro zb)|intro j')
  all_goals try refine zbx ?_
  all_goals rfl
def sgCu:FuncId→List Bool:=fun f=>if f=78 then[true]else if f=38 then[true]else if f=37 then[true]else if f=110 then[true]else if f=111 then[true]else if f=76 then[true]else if f=80 then[true]else if f=41 then[true]else if f=77 then[true]else if f=36 then[true]else if f=39 then[true]else if f=34 then[true]else if f=79 then[true]else if f=40 then[true]else[]
theorem sgCu_eq {f:FuncId}:sgCu f=if f=78 then[true]else if f=38 then[true]else if f=37 then[true]else if f=110 then[true]else if f=111 then[true]else if f=76 then[true]else if f=80 then[true]else if f=41 then[true]else if f=77 then[true]else if f=36 then[true]else if f=39 then[true]else if f=34 then[true]else if f=79 then[true]else if f=40 then[true]else[]:=_root_.id rfl
theorem way_sgCu:wayE sgCu=false∧wayN sgCu=false∧wayS sgCu=false∧wayZ sgCu=false∧wayM sgCu=false:=⟨rfl,rfl,rfl,rfl,rfl⟩
attribute [go_sem] sgCu_eq way_sgCu
def b4X (b:List UInt8) (s:Cu):Int:=byX b s*16777216+byX b (byS b s)*65536+byX b (byS b (byS b s))*256+byX b (byS b (byS b (byS b s)))
theorem b4X_r {b:List UInt8} {s:Cu}:0≤b4X b s∧b4X b s≤4294967295:=by
 have q1:=byX_r (b:=b) (s:=s)
 have q2:=byX_r (b:=b) (s:=byS b s)
 have q3:=byX_r (b:=b) (s:=byS b (byS b s))
 have q4:=byX_r (b:=b) (s:=byS b (byS b (byS b s)))
 unfold b4X;omega
def bwX (b:List UInt8) (s:Cu) (n:Int):Int:=if n≤0 then 0 else if n≤256 then(byX b s).tmod n else(b4X b s).tmod n
def bwS (b:List UInt8) (s:Cu) (n:Int):Cu:=if n≤0 then s else if n≤256 then byS b s else byS b (byS b (byS b (byS b s)))
theorem bwX_r {b:List UInt8} {s:Cu} {n:Int}:0≤bwX b s n∧(0<n→bwX b s n<n)∧(n≤0→bwX b s n=0):=by
 unfold bwX
 by_cases h0:n≤0
 ·rw[if_pos h0];omega
 ·rw[if_neg h0]
  refine⟨?_,fun h=> ?_,fun h=>absurd h h0⟩
  ·split
   ·exact Int.tmod_nonneg _ byX_r.1
   ·exact Int.tmod_nonneg _ b4X_r.1
  ·split<;>exact Int.tmod_lt_of_pos _ h
theorem spec_l1Below_c (b:List UInt8) (s:Cu) (n:Int) (hb:b.length≤1048576) (hn:n≤4294967296):CallT Tryz.prog false 38 [.mu true (curC b s),.pv (.int .i64 (n))] [some (curC b (bwS b s n)),none] [(.int .i64 (bwX b s n))]:=by
 by_cases h0:n≤0
 ·rw[bwS,bwX,if_pos h0,if_pos h0]
  refine fX sgCu [4] Tryz.func38 ?_
  have cM1:= @spec_l1Byte_c
  refine dEa trivial ?_
  all_goals try (refine zlf ?_;repeat' first|exact zso|refine And.intro ?_ ?_|(refine zim ?_;intro zb hc)|(refine zin ?_;intro zb)|intro j')
  all_goals try refine zbx ?_
 ·by_cases h1:n≤256
  ·have q:=byX_r (b:=b) (s:=s)
   rw[bwS,bwX,if_neg h0,if_neg h0,if_pos h1,if_pos h1]
   refine fX sgCu [4] Tryz.func38 ?_
   have cM1:= @spec_l1Byte_c
   refine dEa trivial ?_
   all_goals try (refine zlf ?_;repeat' first|exact zso|refine And.intro ?_ ?_|(refine zim ?_;intro zb hc)|(refine zin ?_;intro zb)|intro j')
   all_goals try refine zbx ?_
  ·have q1:=byX_r (b:=b) (s:=s)
   have q2:=byX_r (b:=b) (s:=byS b s)
   have q3:=byX_r (b:=b) (s:=byS b (byS b s))
   have q4:=byX_r (b:=b) (s:=byS b (byS b (byS b s)))
   rw[bwS,bwX,if_neg h0,if_neg h0,if_neg h1,if_neg h1,b4X]
   refine fX sgCu [4] Tryz.func38 ?_
   have cM1:= @spec_l1Byte_c
   refine dEa trivial ?_
   all_goals try (refine zlf ?_;repeat' first|exact zso|refine And.intro ?_ ?_|(refine zim ?_;intro zb hc)|(refine zin ?_;intro zb)|intro j')
   all_goals try refine zbx ?_
theorem spec_l1Once_c (b:List UInt8) (s:Cu) (n:Int) (hb:b.length≤1048576) (hn:n≤4294967296):CallT Tryz.prog false 37 [.mu true (curC b s),.pv (.int .i64 (n))] [some (curC b (bwS b s n)),none] [(.bool (decide (bwX b s n=0)))]:=by
 refine fX sgCu [4] Tryz.func37 ?_
 have cM1:= @spec_l1Below_c
 refine dEa trivial ?_
 all_goals try (refine zlf ?_;repeat' first|exact zso|refine And.intro ?_ ?_|(refine zim ?_;intro zb hc)|(refine zin ?_;intro zb)|intro j')
 all_goals try refine zbx ?_
theorem spec_l1PickInt_x {m0:Bool} (b:List UInt8) (s:Cu) (l:List Int) (hb:b.length≤1048576) (hl:l.length≤256) (h0:l≠[]):∃s' x,CallT Tryz.prog false 111 [.mu true (curC b s),.pv (.sl (.lent m0) (List.map (PV.int .i64) l))] [some (curC b s'),none] [.int .i64 x]∧x∈l:=by
 have hp:=List.length_pos_iff.2 h0
 have q:=bwX_r (b:=b) (s:=s) (n:=l.length)
 refine⟨bwS b s l.length,l.getD (bwX b s l.length).toNat 0, ?_,getD_mem (by omega)⟩
 refine fX sgCu [4] Tryz.func111 ?_
 have cM1:= @spec_l1Below_c
 refine dEa trivial ?_
 all_goals try (refine zlf ?_;repeat' first|exact zso|refine And.intro ?_ ?_|(refine zim ?_;intro zb hc)|(refine zin ?_;intro zb)|intro j')
 all_goals try refine zbx ?_
theorem spec_l1Pick_x {m0:Bool} (b:List UInt8) (s:Cu) (l:List (List UInt8)) (hb:b.length≤1048576) (hl:l.length≤256) (h0:l≠[]):∃s' x,CallT Tryz.prog false 110 [.mu true (curC b s),.pv (.sl (.lent m0) (List.map PV.str l))] [some (curC b s'),none] [.str x]∧x∈l:=by
 have hp:=List.length_pos_iff.2 h0
 have q:=bwX_r (b:=b) (s:=s) (n:=l.length)
 refine⟨bwS b s l.length,l.getD (bwX b s l.length).toNat [], ?_,getD_mem (by omega)⟩
 refine fX sgCu [4] Tryz.func110 ?_
 have cM1:= @spec_l1Below_c
 refine dEa trivial ?_
 all_goals try (refine zlf ?_;repeat' first|exact zso|refine And.intro ?_ ?_|(refine zim ?_;intro zb hc)|(refine zin ?_;intro zb)|intro j')
 all_goals try refine zbx ?_
 all_goals trace_state
theorem take_midI {L D:List Int} {p:Int} {j:Nat} (h:j≤L.length):List.take (j+1) (L.take j++p::D)=L.take j++[p]:=by
 rw[List.take_append,List.take_of_length_le (by simp;omega),List.length_take,Nat.min_eq_left h,Nat.add_sub_cancel_left];rfl
def drL (b:List UInt8) (s:Cu):Nat→List Int×Cu
 |0=>([],s)
 |k+1=>
  let p:=drL b s k
  ((p.1.take (bwX b p.2 ((p.1.length:Int)+1)).toNat++[(k:Int)+1])++p.1.drop (bwX b p.2 ((p.1.length:Int)+1)).toNat,bwS b p.2 ((p.1.length:Int)+1))
theorem drL_len {b:List UInt8} {s:Cu}:∀{k:Nat},(drL b s k).1.length=k
 |0=>rfl
 |k+1=>by
  have h:=drL_len (b:=b) (s:=s) (k:=k)
  have q:=bwX_r (b:=b) (s:=(drL b s k).2) (n:=((drL b s k).1.length:Int)+1)
  simp only[drL,List.length_append,List.length_take,List.length_drop,List.length_singleton]
  omega
theorem drL_mem {b:List UInt8} {s:Cu}:∀{k:Nat},(∀x∈(drL b s k).1,1≤x∧x≤k)∧(drL b s k).1.Nodup
 |0=>by simp[drL]
 |k+1=>by
  obtain⟨h1,h2⟩:=drL_mem (b:=b) (s:=s) (k:=k)
  have hp:(drL b s (k+1)).1.Perm (((k:Int)+1)::(drL b s k).1):=by
   simp only[drL]
   rw[List.append_assoc,List.singleton_append]
   refine List.perm_middle.trans ?_
   rw[List.take_append_drop]
  constructor
  ·intro x hx
   rcases List.mem_cons.1 (hp.subset hx)with q|q
   ·omega
   ·have:=h1 x q;omega
  ·refine(hp.nodup_iff).2 (List.nodup_cons.2 ⟨fun q=> ?_,h2⟩)
   have:=h1 _ q;omega
theorem drL_perm {b:List UInt8} {s:Cu} {k:Nat}:permB (drL b s k).1=true:=permB_iff.2 ⟨by rw[drL_len];exact drL_mem.1,drL_mem.2⟩
set_option maxHeartbeats 1600000 in
theorem spec_l2Draw_c (b:List UInt8) (s:Cu) (n:Int) (hb:b.length≤1048576) (h0:0≤n) (hn:n≤1000):CallT Tryz.prog false 76 [.mu true (curC b s),.pv (.int .i64 (n))] [some (curC b (drL b s n.toNat).2),none] [(.sl .own (List.map (PV.int .i64) ((drL b s n.toNat).1)))]:=by
 refine fX sgCu [4] Tryz.func76 ?_
 have cM1:= @spec_l1Below_c
 refine dEa trivial ?_
 all_goals try (refine zlf ?_;repeat' first|exact zso|refine And.intro ?_ ?_|(refine zim ?_;intro zb hc)|(refine zin ?_;intro zb)|intro j')
 all_goals try refine zbx ?_
 refine v_loopB (fun ms1 S1=>∃(k:Nat),S1.e 0=.ptr 0 0∧S1.h 0=.live true (curC b (drL b s k).2)∧0<S1.n∧S1.e 1=.p (.int .i64 (n))∧OwnL (S1.e 5) S1.h S1.n (PV.int .i64) (((drL b s k).1).length) ((drL b s k).1)∧S1.e 6=.p (.int .i64 ((k+1)))∧((k:Int)≤n)∧NId (S1.e 5) (.ref 0 0 0)∧ms1=n.toNat - k) ((fun(k:Nat)=>n.toNat - k) (0)) ?_ ⟨0,dC trivial ?_⟩
 all_goals try (refine zlf ?_;repeat' first|exact zso|refine And.intro ?_ ?_|(refine zim ?_;intro zb hc)|(refine zin ?_;intro zb)|intro j')
 all_goals try refine zbx ?_
 rintro ms1 S1 ⟨k,h1_0,b1_0,l1_0,h1_1,o1_5,h1_6,c1_0,u1_0,hm1⟩
 obtain⟨i1_5,h1_5,b1_5,l1_5⟩:=o1_5.out
 have k1_0:=(u1_0).out h1_5 rfl
 have ni1_5:=znds (x:=i1_5) (n:=S1.n)
 have n0:=znds (x:=0) (n:=S1.n)
 have di1_50:=zdne (x:=i1_5) (y:=0)
 have fL1:=(And.intro h1_0 (And.intro b1_0 (And.intro h1_1 (And.intro h1_6 (And.intro h1_5 (And.intro b1_5 (And.intro ni1_5 (And.intro n0 di1_50))))))))
 ·have hl:=drL_len (b:=b) (s:=s) (k:=k)
  have hd:drL b s (k+1)=(((drL b s k).1.take (bwX b (drL b s k).2 (((drL b s k).1.length:Int)+1)).toNat++[(k:Int)+1])++(drL b s k).1.drop (bwX b (drL b s k).2 (((drL b s k).1.length:Int)+1)).toNat,bwS b (drL b s k).2 (((drL b s k).1.length:Int)+1)):=rfl
  have q:=bwX_r (b:=b) (s:=(drL b s k).2) (n:=((drL b s k).1.length:Int)+1)
  obtain⟨j,hj⟩:∃j:Nat,bwX b (drL b s k).2 (((drL b s k).1.length:Int)+1)=j:=⟨_,(Int.toNat_of_nonneg q.1).symm⟩
  rw[hj,Int.toNat_natCast]at hd
  rw[hj]at q
  generalize hL:(drL b s k).1=L at*
  generalize hS:(drL b s k).2=S0 at*
  have e3:List.take (L.length - j) (List.drop j L)=L.drop j:=List.take_of_length_le (by simp)
  by_cases g0:j=L.length
  ·subst g0
   have e4:List.drop L.length L=[]:=List.drop_length
   have e5:List.take L.length L=L:=List.take_length
   have f1:(L.length+1=(L++[(k:Int)+1]).length)=True:=eq_true (by simp)
   rw[e4,e5,List.append_nil]at hd
   refine dEa (And.intro fL1 (And.intro @hj (And.intro @e3 (And.intro @e4 (And.intro @e5 @f1))))) ?_
   all_goals try (refine zlf ?_;repeat' first|exact zso|refine And.intro ?_ ?_|(refine zim ?_;intro zb hc)|(refine zin ?_;intro zb)|intro j')
   all_goals try refine zbx ?_
   ·focus
     refine q_lp_n ((fun(k:Nat)=>n.toNat - k) (k+1)) (dC fL1 ?_) ⟨k+1,dC fL1 ?_⟩
     all_goals try (refine zlf ?_;repeat' first|exact zso|refine And.intro ?_ ?_|(refine zim ?_;intro zb hc)|(refine zin ?_;intro zb)|intro j')
     all_goals try refine zbx ?_
    all_goals rw[hd]
    all_goals first|(simp;done)|skip
   all_goals first|(obtain rfl:k=n.toNat:=(by omega);rw[hS];done)|(obtain rfl:k=n.toNat:=(by omega);rw[hL];done)|skip
  ·have f0:(j=L.length)=False:=eq_false g0
   have f1:(j+1≤L.length)=True:=eq_true (by omega)
   have f2:(List.take j L++((k:Int)+1)::List.drop (j+1) L).length=L.length:=by simp;omega
   have f3:(List.drop j L).length=L.length - j:=by simp
   by_cases g1:j+1=L.length
   ·have f4:(j+1=L.length)=True:=eq_true g1
    refine dEa (And.intro fL1 (And.intro @hj (And.intro @e3 (And.intro @f0 (And.intro @f1 (And.intro @f2 (And.intro @f3 @f4))))))) ?_
    all_goals try (refine zlf ?_;repeat' first|exact zso|refine And.intro ?_ ?_|(refine zim ?_;intro zb hc)|(refine zin ?_;intro zb)|intro j')
    all_goals try refine zbx ?_
    ·focus
      refine q_lp_n ((fun(k:Nat)=>n.toNat - k) (k+1)) (dC fL1 ?_) ⟨k+1,dC fL1 ?_⟩
      all_goals try (refine zlf ?_;repeat' first|exact zso|refine And.intro ?_ ?_|(refine zim ?_;intro zb hc)|(refine zin ?_;intro zb)|intro j')
      all_goals try refine zbx ?_
     all_goals rw[hd]
     all_goals first|(simp;done)|(simp;omega)|(rw[take_midI (by omega)];done)|skip
    all_goals first|(obtain rfl:k=n.toNat:=(by omega);rw[hS];done)|(obtain rfl:k=n.toNat:=(by omega);rw[hL];done)|skip
   ·have f4:(j+1=L.length)=False:=eq_false g1
    have f5:(j+(1+(L.length - j))≤L.length)=False:=eq_false (by omega)
    refine dEa (And.intro fL1 (And.intro @hj (And.intro @e3 (And.intro @f0 (And.intro @f1 (And.intro @f2 (And.intro @f3 (And.intro @f4 @f5)))))))) ?_
    all_goals try (refine zlf ?_;repeat' first|exact zso|refine And.intro ?_ ?_|(refine zim ?_;intro zb hc)|(refine zin ?_;intro zb)|intro j')
    all_goals try refine zbx ?_
    ·focus
      refine q_lp_n ((fun(k:Nat)=>n.toNat - k) (k+1)) (dC fL1 ?_) ⟨k+1,dC fL1 ?_⟩
      all_goals try (refine zlf ?_;repeat' first|exact zso|refine And.intro ?_ ?_|(refine zim ?_;intro zb hc)|(refine zin ?_;intro zb)|intro j')
      all_goals try refine zbx ?_
     all_goals rw[hd]
     all_goals first|(simp;done)|(simp;omega)|(rw[take_midI (by omega)];done)|skip
    all_goals first|(obtain rfl:k=n.toNat:=(by omega);rw[hS];done)|(obtain rfl:k=n.toNat:=(by omega);rw[hL];done)|skip
theorem spec_l2Any_x (b:List UInt8) (s:Cu) (hb:b.length≤1048576):∃s' p,CallT Tryz.prog false 80 [.mu true (curC b s)] [some (curC b s')] [.sl .own (List.map (PV.int .i64) p)]∧isPermB p=true:=by
 obtain⟨s1,n,c1,hn⟩:=spec_l1PickInt_x (m0:=true) b s [0,1,2,3,4,5,5,6,6,7,8] hb (by decide) (by decide)
 have h8:0≤n∧n≤8:=by simp at hn;omega
 simp only[List.map_cons,List.map_nil]at c1
 refine⟨(drL b s1 n.toNat).2,(drL b s1 n.toNat).1, ?_, ?_⟩
 ·refine fX sgCu [2] Tryz.func80 ?_
  have cM1:= @spec_l2Draw_c
  have cM2:= @c1
  refine dEa trivial ?_
  all_goals try (refine zlf ?_;repeat' first|exact zso|refine And.intro ?_ ?_|(refine zim ?_;intro zb hc)|(refine zin ?_;intro zb)|intro j')
  all_goals try refine zbx ?_
 ·simp only[isPermB,drL_perm,drL_len,Bool.and_true,decide_eq_true_eq];omega
structure SmL (p:List Int):Prop where
 len:p.length≤9
 rg:∀x∈p, -1≤x∧x≤10
theorem SmL.of {p:List Int} (h:isPermB p=true):SmL p:=by
 obtain⟨h8,hp⟩:p.length≤8∧permB p=true:=by simpa[isPermB]using h
 exact⟨by omega,fun x hx=>by have:=(permB_iff.1 hp).1 x hx;omega⟩
theorem spec_l2Bent_x (b:List UInt8) (s:Cu) (hb:b.length≤1048576):∃s' p,CallT Tryz.prog false 41 [.mu true (curC b s)] [some (curC b s')] [.sl .own (List.map (PV.int .i64) p)]∧SmL p:=by
 obtain⟨s1,p,c1,hp⟩:=spec_l2Any_x b s hb
 have h8:p.length≤8:=by simp[isPermB]at hp;exact hp.1
 have hs:=SmL.of hp
 obtain⟨x,hx⟩:∃x,bwX b s1 14=x:=⟨_,rfl⟩
 by_cases h0:x=0
 ·have q:=bwX_r (b:=b) (s:=bwS b s1 14) (n:=12)
  refine⟨bwS b (bwS b s1 14) 12,p++[bwX b (bwS b s1 14) 12 - 1], ?_, ?_,fun y hy=> ?_⟩
  ·subst h0
   refine fX sgCu [2] Tryz.func41 ?_
   have cM1:= @spec_l1Below_c
   have cM2:= @c1
   refine dEa @hx ?_
   all_goals try (refine zlf ?_;repeat' first|exact zso|refine And.intro ?_ ?_|(refine zim ?_;intro zb hc)|(refine zin ?_;intro zb)|intro j')
   all_goals try refine zbx ?_
   all_goals exact List.take_of_length_le (by simp)
  ·simp;omega
  ·rcases List.mem_append.1 hy with g|g
   ·exact hs.rg y g
   ·simp at g;omega
 ·by_cases h1:x=1
  ·by_cases hl:0<p.length
   ·have q:=bwX_r (b:=b) (s:=bwS b s1 14) (n:=11)
    refine⟨bwS b (bwS b s1 14) 11,p.set 0 (bwX b (bwS b s1 14) 11 - 1), ?_, ?_,fun y hy=> ?_⟩
    ·subst h1
     refine fX sgCu [2] Tryz.func41 ?_
     have cM1:= @spec_l1Below_c
     have cM2:= @c1
     refine dEa @hx ?_
     all_goals try (refine zlf ?_;repeat' first|exact zso|refine And.intro ?_ ?_|(refine zim ?_;intro zb hc)|(refine zin ?_;intro zb)|intro j')
     all_goals try refine zbx ?_
     all_goals exact List.take_of_length_le (by simp)
    ·simp;omega
    ·rcases List.mem_or_eq_of_mem_set hy with g|g
     ·exact hs.rg y g
     ·omega
   ·refine⟨bwS b s1 14,p, ?_,hs⟩
    subst h1
    refine fX sgCu [2] Tryz.func41 ?_
    have cM1:= @spec_l1Below_c
    have cM2:= @c1
    refine dEa @hx ?_
    all_goals try (refine zlf ?_;repeat' first|exact zso|refine And.intro ?_ ?_|(refine zim ?_;intro zb hc)|(refine zin ?_;intro zb)|intro j')
    all_goals try refine zbx ?_
    all_goals exact List.take_of_length_le (by simp)
  ·have f0:(x=0)=False:=eq_false h0
   have f1:(x=1)=False:=eq_false h1
   refine⟨bwS b s1 14,p, ?_,hs⟩
   refine fX sgCu [2] Tryz.func41 ?_
   have cM1:= @spec_l1Below_c
   have cM2:= @c1
   refine dEa (And.intro @hx (And.intro @f0 @f1)) ?_
   all_goals try (refine zlf ?_;repeat' first|exact zso|refine And.intro ?_ ?_|(refine zim ?_;intro zb hc)|(refine zin ?_;intro zb)|intro j')
   all_goals try refine zbx ?_
   all_goals exact List.take_of_length_le (by simp)
theorem spec_l2Same_c {m0 m1:Bool} (a b:List Int) (ha:a.length≤1099511627776) (hb:b.length≤1099511627776):Fun Tryz.prog 46 [(.sl (.lent m0) (List.map (PV.int .i64) (a))),(.sl (.lent m1) (List.map (PV.int .i64) (b)))] [(.bool (decide (a=b)))]:=by
 refine fO sg0 [4] Tryz.func46 ?_
 refine dE trivial ?_
 all_goals try (refine zlf ?_;repeat' first|exact zso|refine And.intro ?_ ?_|(refine zim ?_;intro zb hc)|(refine zin ?_;intro zb)|intro j')
 all_goals try refine zbx ?_
 ·rw[decide_eq_false];intro e;subst e;exact hc rfl
 refine v_loopB (fun ms1 S1=>∃(k:Nat),S1.e 0=.p (.sl (.lent m0) (List.map (PV.int .i64) (a)))∧S1.e 1=.p (.sl (.lent m1) (List.map (PV.int .i64) (b)))∧S1.e 5=.p (.int .i64 (k))∧(k≤a.length)∧(a.take k=b.take k)∧ms1=a.length - k) ((fun(k:Nat)=>a.length - k) (0)) ?_ ⟨0,dIa trivial ?_⟩
 all_goals try (refine zlf ?_;repeat' first|exact zso|refine And.intro ?_ ?_|(refine zim ?_;intro zb hc)|(refine zin ?_;intro zb)|intro j')
 all_goals try refine zbx ?_
 rintro ms1 S1 ⟨k,h1_0,h1_1,h1_5,c1_0,c1_1,hm1⟩
 have fL1:=(And.intro h1_0 (And.intro h1_1 h1_5))
 refine dEa fL1 ?_
 all_goals try (refine zlf ?_;repeat' first|exact zso|refine And.intro ?_ ?_|(refine zim ?_;intro zb hc)|(refine zin ?_;intro zb)|intro j')
 all_goals try refine zbx ?_
 ·rw[decide_eq_false];intro e;subst e;exact hc rfl
 ·focus
   refine q_lp_n ((fun(k:Nat)=>a.length - k) (k+1)) (dC fL1 ?_) ⟨k+1,dC fL1 ?_⟩
   all_goals try (refine zlf ?_;repeat' first|exact zso|refine And.intro ?_ ?_|(refine zim ?_;intro zb hc)|(refine zin ?_;intro zb)|intro j')
   all_goals try refine zbx ?_
  rw[take_succ_iff (by omega) (by omega)];exact⟨c1_1,hc⟩
 ·rw[decide_eq_true]
  rw[List.take_of_length_le (by omega),List.take_of_length_le (by omega)]at c1_1;exact c1_1
theorem slices_Equal_int_int_c {m0 m1:Bool} (a b:List Int) (ha:a.length≤1099511627776) (hb:b.length≤1099511627776):Fun Tryz.prog 44 [(.sl (.lent m0) (List.map (PV.int .i64) (a))),(.sl (.lent m1) (List.map (PV.int .i64) (b)))] [(.bool (decide (a=b)))]:=by
 refine fO sg0 [4] Tryz.func44 ?_
 refine dE trivial ?_
 all_goals try (refine zlf ?_;repeat' first|exact zso|refine And.intro ?_ ?_|(refine zim ?_;intro zb hc)|(refine zin ?_;intro zb)|intro j')
 all_goals try refine zbx ?_
 ·rw[decide_eq_false];intro e;subst e;exact hc rfl
 refine v_loopB (fun ms1 S1=>∃(k:Nat),S1.e 0=.p (.sl (.lent m0) (List.map (PV.int .i64) (a)))∧S1.e 1=.p (.sl (.lent m1) (List.map (PV.int .i64) (b)))∧S1.e 12=.p (.int .i64 (a.length))∧S1.e 13=.p (.int .i64 (k))∧(k≤a.length)∧(a.take k=b.take k)∧ms1=a.length - k) ((fun(k:Nat)=>a.length - k) (0)) ?_ ⟨0,dIa trivial ?_⟩
 all_goals try (refine zlf ?_;repeat' first|exact zso|refine And.intro ?_ ?_|(refine zim ?_;intro zb hc)|(refine zin ?_;intro zb)|intro j')
 all_goals try refine zbx ?_
 rintro ms1 S1 ⟨k,h1_0,h1_1,h1_12,h1_13,c1_0,c1_1,hm1⟩
 have fL1:=(And.intro h1_0 (And.intro h1_1 (And.intro h1_12 h1_13)))
 refine dEa fL1 ?_
 all_goals try (refine zlf ?_;repeat' first|exact zso|refine And.intro ?_ ?_|(refine zim ?_;intro zb hc)|(refine zin ?_;intro zb)|intro j')
 all_goals try refine zbx ?_
 ·rw[decide_eq_false];intro e;subst e;exact hc rfl
 ·focus
   refine q_lp_n ((fun(k:Nat)=>a.length - k) (k+1)) (dC fL1 ?_) ⟨k+1,dC fL1 ?_⟩
   all_goals try (refine zlf ?_;repeat' first|exact zso|refine And.intro ?_ ?_|(refine zim ?_;intro zb hc)|(refine zin ?_;intro zb)|intro j')
   all_goals try refine zbx ?_
  rw[take_succ_iff (by omega) (by omega)];exact⟨c1_1,hc⟩
 ·rw[decide_eq_true]
  rw[List.take_of_length_le (by omega),List.take_of_length_le (by omega)]at c1_1;exact c1_1
def atP (L:List (List Int)) (p:List Int):Nat→Nat
 |0=>0
 |k+1=>if befB p (L.getD k [])=true then atP L p k else k+1
theorem atP_spec {L:List (List Int)} {p:List Int}:∀{k:Nat},atP L p k≤k∧(∀i,atP L p k≤i→i<k→befB p (L.getD i [])=true)∧(atP L p k=0∨befB p (L.getD (atP L p k - 1) [])=false)
 |0=>⟨Nat.le_refl _,fun i _ h=>absurd h (by omega),.inl rfl⟩
 |k+1=>by
  rw[atP]
  by_cases e:befB p (L.getD k [])=true
  ·rw[if_pos e]
   obtain⟨h1,h2,h3⟩:=atP_spec (L:=L) (p:=p) (k:=k)
   refine⟨by omega,fun i hi hk=> ?_,h3⟩
   by_cases q:i=k
   ·subst q;exact e
   ·exact h2 i hi (by omega)
  ·rw[if_neg e]
   refine⟨Nat.le_refl _,fun i hi hk=>by omega,.inr ?_⟩
   simpa using e
def insK (L:List (List Int)) (p:List Int) (j:Nat):List (List Int):=L.take j++p::L.drop j
def insS (L:List (List Int)) (p:List Int):List (List Int):=insK L p (atP L p L.length)
def putP (L:List (List Int)) (p:List Int):List (List Int):=if 0<atP L p L.length∧L.getD (atP L p L.length - 1) []=p then L else insS L p
def putL (L:List (List Int)):List (List Int):=L.foldl putP []
theorem insK_len {L:List (List Int)} {p:List Int} {j:Nat}:(insK L p j).length=L.length+1:=by
 unfold insK;simp;omega
theorem insK_mem {L:List (List Int)} {p x:List Int} {j:Nat}:x∈insK L p j↔x=p∨x∈L:=by
 unfold insK
 rw[List.mem_append,List.mem_cons]
 have:x∈L↔x∈L.take j∨x∈L.drop j:=by rw[←List.mem_append,List.take_append_drop]
 rw[this];constructor
 ·rintro(h|h|h)<;>simp[h]
 ·rintro(h|h|h)<;>simp[h]
theorem putP_mem {L:List (List Int)} {p x:List Int}:x∈putP L p↔x=p∨x∈L:=by
 unfold putP
 split
 ·rename_i h
  constructor
  ·exact .inr
  ·rintro(rfl|h2)
   ·rw[←h.2];exact getD_mem (by have:=(atP_spec (L:=L) (p:=x) (k:=L.length)).1;omega)
   ·exact h2
 ·exact insK_mem
theorem put_mem (L:List (List Int)):∀{A:List (List Int)} {x:List Int},x∈L.foldl putP A↔x∈L∨x∈A:=by
 induction L with
 |nil=>simp
 |cons y l ih=>intro A x;rw[List.foldl_cons,ih,putP_mem,List.mem_cons,or_left_comm,or_assoc]
theorem insS_len {L:List (List Int)} {p:List Int}:(insS L p).length=L.length+1:=insK_len
theorem put_len (L:List (List Int)):∀{A:List (List Int)},(L.foldl putP A).length≤L.length+A.length:=by
 induction L with
 |nil=>simp
 |cons y l ih=>
  intro A;rw[List.foldl_cons]
  have h:=ih (A:=putP A y)
  have:(putP A y).length≤A.length+1:=by unfold putP;split;omega;rw[insS_len];omega
  rw[List.length_cons];omega
theorem atP_uniq {L:List (List Int)} {p:List Int}:∀{k j:Nat},j≤k→(∀q,j≤q→q<k→befB p (L.getD q [])=true)→(0<j→befB p (L.getD (j - 1) [])=false)→atP L p k=j
 |0,j,h,_,_=>by rw[atP];omega
 |k+1,j,h,h1,h2=>by
  rw[atP]
  by_cases e:j=k+1
  ·subst e
   have:=h2 (by omega)
   rw[Nat.add_sub_cancel]at this
   rw[this];rfl
  ·rw[if_pos (h1 k (by omega) (by omega))]
   exact atP_uniq (by omega) (fun q a b=>h1 q a (by omega)) h2
theorem tk_mid {L D:List (List Int)} {p:List Int} {j:Nat} (h:j≤L.length):List.take (j+1) (L.take j++p::D)=L.take j++[p]:=by
 rw[List.take_append,List.take_of_length_le (by simp;omega),List.length_take,Nat.min_eq_left h,Nat.add_sub_cancel_left];rfl
theorem put_at {L:List (List Int)} {p:List Int} {j:Nat} (h1:j≤L.length) (h2:∀q,j≤q→q<L.length→befB p (L.getD q [])=true) (h3:0<j→befB p (L.getD (j - 1) [])=false) (h4:0<j→¬L.getD (j - 1) []=p):putP L p=L.take j++p::L.drop j:=by
 have e:=atP_uniq h1 h2 h3
 rw[putP,insS,e,if_neg fun h=>h4 h.1 h.2];rfl
theorem put_in {L:List (List Int)} {p:List Int} {j:Nat} (h1:j≤L.length) (h2:∀q,j≤q→q<L.length→befB p (L.getD q [])=true) (h3:0<j→befB p (L.getD (j - 1) [])=false) (h4:0<j) (h5:L.getD (j - 1) []=p):putP L p=L:=by
 have e:=atP_uniq h1 h2 h3
 rw[putP,e,if_pos ⟨h4,h5⟩]
theorem bef_dn {L:List (List Int)} {p:List Int} {j:Nat} (h2:∀q,j≤q→q<L.length→befB p (L.getD q [])=true) (h3:befB p (L.getD (j - 1) [])=true):∀q,j - 1≤q→q<L.length→befB p (L.getD q [])=true:=fun q a b=>by
 by_cases e:q=j - 1
 ·rw[e];exact h3
 ·exact h2 q (by omega) b
theorem spec_l3Put_c {m1:Bool} (L:List (List Int)) (p:List Int) (hL:L.length≤1000000000) (hl:∀l∈L,l.length≤1048576) (hp:p.length≤1048576):CallT Tryz.prog true 66 [.mu false (List.map (elI false) (L)),.pv (.sl (.lent m1) (List.map (PV.int .i64) (p)))] [none,none] [(.sl .own (List.map (elI false) (putP L p)))]:=by
 refine fX sg0 [4] Tryz.func66 ?_
 have cE1:= @spec_l2Before_c;have cE2:= @spec_l2Same_c;have cD1:=zdh [false,false,false,true,false,true,true,true,false,true,false] [(0,3),(1,3),(2,3),(3,4),(0,5),(1,5),(2,5),(0,6),(1,6),(2,6),(3,8),(5,8),(6,8),(7,8)]
 refine dTa trivial ?_
 all_goals try (refine zlf ?_;repeat' first|exact zso|refine And.intro ?_ ?_|(refine zim ?_;intro zb hc;repeat (have zc:=zb.1;replace zb:=zb.2))|(refine zin ?_;intro zb)|intro j')
 all_goals try refine zbx ?_
 refine v_loopB (fun ms1 S1=>∃(j:Nat),S1.e 0=.ref 0 0 (L).length∧S1.h 0=.live true (List.map (elI false) (L))∧0<S1.n∧S1.e 1=.p (.sl (.lent m1) (List.map (PV.int .i64) (p)))∧S1.e 5=.p (.int .i64 (j))∧(j≤L.length)∧(∀q,j≤q→q<L.length→befB p (L.getD q [])=true)∧ms1=j) ((fun(j:Nat)=>j) (L.length)) ?_ ⟨L.length,dC trivial ?_⟩
 all_goals try (refine zlf ?_;repeat' first|exact zso|refine And.intro ?_ ?_|(refine zim ?_;intro zb hc;repeat (have zc:=zb.1;replace zb:=zb.2))|(refine zin ?_;intro zb)|intro j')
 all_goals try refine zbx ?_
 rintro ms1 S1 ⟨j,h1_0,b1_0,l1_0,h1_1,h1_5,c1_0,c1_1,hm1⟩
 have n0:=znds (x:=0) (n:=S1.n)
 have fL1:=(And.intro h1_0 (And.intro b1_0 (And.intro h1_1 (And.intro h1_5 n0))))
 ·have e1:((j:Int) - 1).toNat=j - 1:=by omega
  have e3:List.take (L.length - j) (List.drop j L)=L.drop j:=List.take_of_length_le (by simp)
  by_cases hj:0<j
  ·have e2:=hl (L.getD (j - 1) []) (getD_mem (by omega))
   have gg:((0:Int)<(j:Int))=True:=eq_true (by omega)
   by_cases h0:j=L.length
   ·have h0':=h0
    subst h0'
    have e4:List.drop L.length L=[]:=List.drop_length
    have e5:List.take L.length L=L:=List.take_length
    have f1:(L.length+1=(L++[p]).length)=True:=eq_true (by simp)
    refine dTa (And.intro fL1 (And.intro @e1 (And.intro @e3 (And.intro @e4 (And.intro @e5 (And.intro @f1 @gg)))))) ?_
    all_goals try (refine zlf ?_;repeat' first|exact zso|refine And.intro ?_ ?_|(refine zim ?_;intro zb hc;repeat (have zc:=zb.1;replace zb:=zb.2))|(refine zin ?_;intro zb)|intro j')
    all_goals try refine zbx ?_
    ·focus
      refine q_lp_n ((fun(j:Nat)=>j) (L.length - 1)) (dC fL1 ?_) ⟨L.length - 1,dC fL1 ?_⟩
      all_goals try (refine zlf ?_;repeat' first|exact zso|refine And.intro ?_ ?_|(refine zim ?_;intro zb hc;repeat (have zc:=zb.1;replace zb:=zb.2))|(refine zin ?_;intro zb)|intro j')
      all_goals try refine zbx ?_
     exact bef_dn c1_1 hc
    ·exact(put_in (Nat.le_refl _) c1_1 (fun _=>by assumption) hj hc).symm
    ·rw[put_at (Nat.le_refl _) c1_1 (fun _=>by assumption) (fun _=>by assumption),List.take_of_length_le (by simp)];simp
   ·have f0:(j=L.length)=False:=eq_false h0
    have f1:(j+1≤L.length)=True:=eq_true (by omega)
    have f2:(List.take j L++p::List.drop (j+1) L).length=L.length:=by simp;omega
    have f3:(List.drop j L).length=L.length - j:=by simp
    by_cases h1:j+1=L.length
    ·have f4:(j+1=L.length)=True:=eq_true h1
     refine dTa (And.intro fL1 (And.intro @e1 (And.intro @e3 (And.intro @f0 (And.intro @f1 (And.intro @f2 (And.intro @f3 (And.intro @f4 @gg)))))))) ?_
     all_goals try (refine zlf ?_;repeat' first|exact zso|refine And.intro ?_ ?_|(refine zim ?_;intro zb hc;repeat (have zc:=zb.1;replace zb:=zb.2))|(refine zin ?_;intro zb)|intro j')
     all_goals try refine zbx ?_
     ·focus
       refine q_lp_n ((fun(j:Nat)=>j) (j - 1)) (dC fL1 ?_) ⟨j - 1,dC fL1 ?_⟩
       all_goals try (refine zlf ?_;repeat' first|exact zso|refine And.intro ?_ ?_|(refine zim ?_;intro zb hc;repeat (have zc:=zb.1;replace zb:=zb.2))|(refine zin ?_;intro zb)|intro j')
       all_goals try refine zbx ?_
      exact bef_dn c1_1 hc
     ·exact(put_in c1_0 c1_1 (fun _=>by assumption) hj hc).symm
     ·rw[put_at c1_0 c1_1 (fun _=>by assumption) (fun _=>by assumption),List.drop_of_length_le (i:=j+1) (by omega),List.nil_append,List.take_of_length_le (by simp;omega)]
    ·have f4:(j+1=L.length)=False:=eq_false h1
     have f5:(j+(1+(L.length - j))≤L.length)=False:=eq_false (by omega)
     refine dTa (And.intro fL1 (And.intro @e1 (And.intro @e3 (And.intro @f0 (And.intro @f1 (And.intro @f2 (And.intro @f3 (And.intro @f4 (And.intro @f5 @gg))))))))) ?_
     all_goals try (refine zlf ?_;repeat' first|exact zso|refine And.intro ?_ ?_|(refine zim ?_;intro zb hc;repeat (have zc:=zb.1;replace zb:=zb.2))|(refine zin ?_;intro zb)|intro j')
     all_goals try refine zbx ?_
     ·focus
       refine q_lp_n ((fun(j:Nat)=>j) (j - 1)) (dC fL1 ?_) ⟨j - 1,dC fL1 ?_⟩
       all_goals try (refine zlf ?_;repeat' first|exact zso|refine And.intro ?_ ?_|(refine zim ?_;intro zb hc;repeat (have zc:=zb.1;replace zb:=zb.2))|(refine zin ?_;intro zb)|intro j')
       all_goals try refine zbx ?_
      exact bef_dn c1_1 hc
     ·exact(put_in c1_0 c1_1 (fun _=>by assumption) hj hc).symm
     ·rw[put_at c1_0 c1_1 (fun _=>by assumption) (fun _=>by assumption),tk_mid (by omega),List.take_of_length_le (by simp;omega),List.append_assoc];rfl
  ·have gg:((0:Int)<(j:Int))=False:=eq_false (by omega)
   by_cases h0:j=L.length
   ·have h0':=h0
    subst h0'
    have e4:List.drop L.length L=[]:=List.drop_length
    have e5:List.take L.length L=L:=List.take_length
    have f1:(L.length+1=(L++[p]).length)=True:=eq_true (by simp)
    refine dTa (And.intro fL1 (And.intro @e1 (And.intro @e3 (And.intro @e4 (And.intro @e5 (And.intro @f1 @gg)))))) ?_
    all_goals try (refine zlf ?_;repeat' first|exact zso|refine And.intro ?_ ?_|(refine zim ?_;intro zb hc;repeat (have zc:=zb.1;replace zb:=zb.2))|(refine zin ?_;intro zb)|intro j')
    all_goals try refine zbx ?_
    rw[put_at (Nat.le_refl _) c1_1 (fun h=>absurd h hj) (fun h=>absurd h hj),List.take_of_length_le (by simp)];simp
   ·have f0:(j=L.length)=False:=eq_false h0
    have f1:(j+1≤L.length)=True:=eq_true (by omega)
    have f2:(List.take j L++p::List.drop (j+1) L).length=L.length:=by simp;omega
    have f3:(List.drop j L).length=L.length - j:=by simp
    by_cases h1:j+1=L.length
    ·have f4:(j+1=L.length)=True:=eq_true h1
     refine dTa (And.intro fL1 (And.intro @e1 (And.intro @e3 (And.intro @f0 (And.intro @f1 (And.intro @f2 (And.intro @f3 (And.intro @f4 @gg)))))))) ?_
     all_goals try (refine zlf ?_;repeat' first|exact zso|refine And.intro ?_ ?_|(refine zim ?_;intro zb hc;repeat (have zc:=zb.1;replace zb:=zb.2))|(refine zin ?_;intro zb)|intro j')
     all_goals try refine zbx ?_
     rw[put_at c1_0 c1_1 (fun h=>absurd h hj) (fun h=>absurd h hj),List.drop_of_length_le (i:=j+1) (by omega),List.nil_append,List.take_of_length_le (by simp;omega)]
    ·have f4:(j+1=L.length)=False:=eq_false h1
     have f5:(j+(1+(L.length - j))≤L.length)=False:=eq_false (by omega)
     refine dTa (And.intro fL1 (And.intro @e1 (And.intro @e3 (And.intro @f0 (And.intro @f1 (And.intro @f2 (And.intro @f3 (And.intro @f4 (And.intro @f5 @gg))))))))) ?_
     all_goals try (refine zlf ?_;repeat' first|exact zso|refine And.intro ?_ ?_|(refine zim ?_;intro zb hc;repeat (have zc:=zb.1;replace zb:=zb.2))|(refine zin ?_;intro zb)|intro j')
     all_goals try refine zbx ?_
     rw[put_at c1_0 c1_1 (fun h=>absurd h hj) (fun h=>absurd h hj),tk_mid (by omega),List.take_of_length_le (by simp;omega),List.append_assoc];rfl
 all_goals trace_state
theorem put_lens {L:List (List Int)} {n:Nat} (h:∀l∈L,l.length≤n):∀l∈putL L,l.length≤n:=fun l hl=>by
 rw[putL,put_mem]at hl
 rcases hl with hl|hl
 ·exact h l hl
 ·cases hl
theorem putL_len {L:List (List Int)}:(putL L).length≤L.length:=by have:=put_len L (A:=[]);rw[List.length_nil,Nat.add_zero]at this;exact this
theorem isP_8 {p:List Int} (h:isPermB p=true):p.length≤8∧permB p=true:=by simpa[isPermB]using h
theorem spec_l3All_c {e0 m0:Bool} (L:List (List Int)) (hL:L.length≤1048576) (hl:∀l∈L,l.length≤1048576):Fun Tryz.prog 130 [(.sl (.lent m0) (List.map (elI e0) (L)))] [(.bool (L.all isPermB))]:=by
 refine fO sg0 [2] Tryz.func130 ?_
 have cE1:= @spec_IsPerm_c
 refine dEa trivial ?_
 all_goals try (refine zlf ?_;repeat' first|exact zso|refine And.intro ?_ ?_|(refine zim ?_;intro zb hc)|(refine zin ?_;intro zb)|intro j')
 all_goals try refine zbx ?_
 refine v_loopB (fun ms1 S1=>∃(k:Nat),S1.e 0=.p (.sl (.lent m0) (List.map (elI e0) (L)))∧S1.e 3=.p (.int .i64 (k))∧(k≤L.length)∧(∀q∈L.take k,isPermB q=true)∧ms1=L.length - k) ((fun(k:Nat)=>L.length - k) (0)) ?_ ⟨0,dC trivial ?_⟩
 all_goals try (refine zlf ?_;repeat' first|exact zso|refine And.intro ?_ ?_|(refine zim ?_;intro zb hc)|(refine zin ?_;intro zb)|intro j')
 all_goals try refine zbx ?_
 rintro ms1 S1 ⟨k,h1_0,h1_3,c1_0,c1_1,hm1⟩
 have fL1:=(And.intro h1_0 h1_3)
 by_cases hk:k<L.length
 ·have g1:=hl _ (getD_mem (d:=[]) hk)
  refine dEa fL1 ?_
  all_goals try (refine zlf ?_;repeat' first|exact zso|refine And.intro ?_ ?_|(refine zim ?_;intro zb hc)|(refine zin ?_;intro zb)|intro j')
  all_goals try refine zbx ?_
  ·exact(List.all_eq_false.2 ⟨_,getD_mem hk,by rw[hc];decide⟩).symm
  ·focus
    refine q_lp_n ((fun(k:Nat)=>L.length - k) (k+1)) (dC fL1 ?_) ⟨k+1,dC fL1 ?_⟩
    all_goals try (refine zlf ?_;repeat' first|exact zso|refine And.intro ?_ ?_|(refine zim ?_;intro zb hc)|(refine zin ?_;intro zb)|intro j')
    all_goals try refine zbx ?_
   intro q hq
   rw[take_getD (d:=[]) (by omega)]at hq
   rcases List.mem_append.1 hq with hq|hq
   ·exact c1_1 q hq
   ·simp at hq;subst hq;simpa using hc
 ·refine dEa fL1 ?_
  all_goals try (refine zlf ?_;repeat' first|exact zso|refine And.intro ?_ ?_|(refine zim ?_;intro zb hc)|(refine zin ?_;intro zb)|intro j')
  all_goals try refine zbx ?_
  rw[List.take_of_length_le (by omega)]at c1_1
  exact(List.all_eq_true.2 c1_1).symm
theorem spec_l1PickInt_b {m0:Bool} (b:List UInt8) (s:Cu) (l:List Int) (hb:b.length≤1048576) (hl:l.length≤256) (h0:0<l.length):CallT Tryz.prog false 111 [.mu true (curC b s),.pv (.sl (.lent m0) (List.map (PV.int .i64) l))] [some (curC b (bwS b s l.length)),none] [.int .i64 (l.getD (bwX b s l.length).toNat 0)]:=by
 have q:=bwX_r (b:=b) (s:=s) (n:=l.length)
 refine fX sgCu [4] Tryz.func111 ?_
 have cM1:= @spec_l1Below_c
 refine dEa trivial ?_
 all_goals try (refine zlf ?_;repeat' first|exact zso|refine And.intro ?_ ?_|(refine zim ?_;intro zb hc)|(refine zin ?_;intro zb)|intro j')
 all_goals try refine zbx ?_
def ofK (p:List Int) (L:List (List Int)) (i:Nat):Nat→Int
 |0=>0
 |j+1=>ofK p L i j+bitI (decide (p.getD j 0<p.getD i 0))*((L.getD j []).length:Int)
def inO (p:List Int) (L:List (List Int)):Nat→List Int
 |0=>[]
 |i+1=>inO p L i++(L.getD i []).map fun x=>ofK p L i p.length+x
theorem ofK_b {p:List Int} {L:List (List Int)} {i:Nat}:∀{j:Nat},j≤L.length→0≤ofK p L i j∧ofK p L i j≤lenS (L.take j)
 |0,_=>by simp[ofK,lenS]
 |j+1,h=>by
  have ih:=ofK_b (p:=p) (L:=L) (i:=i) (j:=j) (by omega)
  rw[lenS_succ (by omega),ofK]
  unfold bitI;split<;>push_cast<;>omega
theorem inO_len {p:List Int} {L:List (List Int)}:∀{i:Nat},i≤L.length→(inO p L i).length=lenS (L.take i)
 |0,_=>by simp[inO,lenS]
 |i+1,h=>by rw[inO,List.length_append,inO_len (by omega),lenS_succ (by omega),List.length_map]
def inOk (L:List (List Int)):Bool:=L.all (fun l=>decide (l.length≠0))&&decide (lenS L≤8)
theorem inOk_no {L:List (List Int)} {k:Nat} (hk:k<L.length) (h:(L.getD k []).length=0∨8<lenS (L.take (k+1))):inOk L=false:=by
 rw[←Bool.not_eq_true]
 intro q
 simp only[inOk,Bool.and_eq_true,List.all_eq_true,decide_eq_true_eq]at q
 rcases h with h|h
 ·exact q.1 _ (getD_mem hk) h
 ·have:=lenS_take (L:=L) (j:=k+1);omega
theorem bit_mul {b:Bool} {n:Nat}:bitI b*(n:Int)=if b=true then(n:Int)else 0:=by cases b<;>simp[bitI]
set_option maxHeartbeats 1600000 in
theorem spec_InflateBy_c {m0 e1 m1:Bool} (p:List Int) (L:List (List Int)) (hp:isPermB p=true) (he:L.length=p.length) (hL:L.all isPermB=true):Fun Tryz.prog 112 [(.sl (.lent m0) (List.map (PV.int .i64) (p))),(.sl (.lent m1) (List.map (elI e1) (L)))] [(.sl .own (List.map (PV.int .i64) ((if inOk L=true then inO p L p.length else[])))),(.bool (inOk L))]:=by
 refine fO sg0 [4,5] Tryz.func112 ?_
 have cE1:= @spec_l1Bit_c;have cE2:= @spec_IsPerm_c;have cE3:= @spec_l3All_c;have cD1:=zdh [false,false,false,false,false,false,false,false,false,false,true,false,false,false,false,false,false,false,false] [(0,10),(10,11),(10,12),(10,13),(10,14),(10,15)]
 obtain⟨h8,hq⟩:=isP_8 hp
 obtain⟨q1,q2⟩:=permB_iff.1 hq
 have hr:∀l∈L,l.length≤8∧∀x∈l,1≤x∧x≤8:=fun l hl=>by
  obtain⟨g8,gq⟩:=isP_8 (List.all_eq_true.1 hL l hl)
  refine⟨g8,fun x hx=> ?_⟩
  have:=(permB_iff.1 gq).1 x hx;omega
 have hr0:∀l∈L,l.length≤1048576:=fun l hl=>by have:=(hr l hl).1;omega
 have g1:((L.length:Int)=(p.length:Int))=True:=eq_true (by omega)
 refine dEa (And.intro @hp (And.intro @hL @g1)) ?_
 all_goals try (refine zlf ?_;repeat' first|exact zso|refine And.intro ?_ ?_|(refine zim ?_;intro zb hc)|(refine zin ?_;intro zb)|intro j')
 all_goals try refine zbx ?_
 refine v_loopB (fun ms1 S1=>∃(k:Nat),S1.e 0=.p (.sl (.lent m0) (List.map (PV.int .i64) (p)))∧S1.e 1=.p (.sl (.lent m1) (List.map (elI e1) (L)))∧S1.e 6=.p (.int .i64 (lenS (L.take k)))∧S1.e 7=.p (.int .i64 (k))∧(k≤L.length)∧(lenS (L.take k)≤8)∧(∀j,j<k→(L.getD j []).length≠0)∧ms1=L.length - k) ((fun(k:Nat)=>L.length - k) (0)) ?_ ⟨0,dC trivial ?_⟩
 all_goals try (refine zlf ?_;repeat' first|exact zso|refine And.intro ?_ ?_|(refine zim ?_;intro zb hc)|(refine zin ?_;intro zb)|intro j')
 all_goals try refine zbx ?_
 rintro ms1 S1 ⟨k,h1_0,h1_1,h1_6,h1_7,c1_0,c1_1,c1_2,hm1⟩
 have fL1:=(And.intro h1_0 (And.intro h1_1 (And.intro h1_6 h1_7)))
 ·have b0:=lenS_take (L:=L) (j:=k)
  by_cases hk:k<L.length
  ·have r1:=(hr _ (getD_mem (d:=[]) hk)).1
   have r2:=lenS_succ hk
   by_cases hz:(L.getD k []).length=0∨8<lenS (L.take (k+1))
   ·have r3:=inOk_no hk hz
    rw[r3]
    refine dEa fL1 ?_
    all_goals try (refine zlf ?_;repeat' first|exact zso|refine And.intro ?_ ?_|(refine zim ?_;intro zb hc)|(refine zin ?_;intro zb)|intro j')
    all_goals try refine zbx ?_
    all_goals trace_state
   ·refine dEa fL1 ?_
    all_goals try (refine zlf ?_;repeat' first|exact zso|refine And.intro ?_ ?_|(refine zim ?_;intro zb hc)|(refine zin ?_;intro zb)|intro j')
    all_goals try refine zbx ?_
    focus
     refine q_lp_n ((fun(k:Nat)=>L.length - k) (k+1)) (dC fL1 ?_) ⟨k+1,dC fL1 ?_⟩
     all_goals try (refine zlf ?_;repeat' first|exact zso|refine And.intro ?_ ?_|(refine zim ?_;intro zb hc)|(refine zin ?_;intro zb)|intro j')
     all_goals try refine zbx ?_
    all_goals(first|(intro j hj;rcases Nat.lt_succ_iff_lt_or_eq.1 hj with g|g;exact c1_2 j g;subst g;omega)|skip)
    all_goals trace_state
  ·obtain rfl:k=L.length:=by omega
   have g2:inOk L=true:=by
    rw[List.take_length]at c1_1
    simp only[inOk,Bool.and_eq_true,List.all_eq_true,decide_eq_true_eq]
    refine⟨fun l hl=> ?_,c1_1⟩
    obtain⟨i,hi,rfl⟩:=List.getElem_of_mem hl
    have:=c1_2 i hi
    rwa [List.getD_eq_getElem?_getD,List.getElem?_eq_getElem hi]at this
   have g3:lenS L≤8:=by rw[List.take_length]at c1_1;exact c1_1
   rw[g2,if_pos rfl]
   refine dEa fL1 ?_
   all_goals try (refine zlf ?_;repeat' first|exact zso|refine And.intro ?_ ?_|(refine zim ?_;intro zb hc)|(refine zin ?_;intro zb)|intro j')
   all_goals try refine zbx ?_
   refine v_loopB (fun ms2 S2=>∃(i:Nat),S2.e 0=.p (.sl (.lent m0) (List.map (PV.int .i64) (p)))∧S2.e 1=.p (.sl (.lent m1) (List.map (elI e1) (L)))∧OwnL (S2.e 8) S2.h S2.n (PV.int .i64) ((inO p L i).length) (inO p L i)∧S2.e 9=.p (.int .i64 (i))∧(i≤p.length)∧S1.n≤S2.n∧ms2=p.length - i) ((fun(i:Nat)=>p.length - i) (0)) ?_ ⟨0,dC fL1 ?_⟩
   all_goals try (refine zlf ?_;repeat' first|exact zso|refine And.intro ?_ ?_|(refine zim ?_;intro zb hc)|(refine zin ?_;intro zb)|intro j')
   all_goals try refine zbx ?_
   rintro ms2 S2 ⟨i,h2_0,h2_1,o2_8,h2_9,c2_0,u2_0,hm2⟩
   obtain⟨i2_8,h2_8,b2_8,l2_8⟩:=o2_8.out
   have ni2_8:=znds (x:=i2_8) (n:=S2.n)
   have fL2:=(And.intro h2_0 (And.intro h2_1 (And.intro h2_9 (And.intro h2_8 (And.intro b2_8 ni2_8)))))
   ·have g4:=inO_len (p:=p) (L:=L) (i:=i) (by omega)
    have g5:=lenS_take (L:=L) (j:=i)
    by_cases hi:i<p.length
    ·have g6:=lenS_succ (L:=L) (j:=i) (by omega)
     have g7:=lenS_take (L:=L) (j:=i+1)
     have w1:=hr _ (getD_mem (d:=[]) (show i<L.length by omega))
     refine dEa fL2 ?_
     all_goals try (refine zlf ?_;repeat' first|exact zso|refine And.intro ?_ ?_|(refine zim ?_;intro zb hc)|(refine zin ?_;intro zb)|intro j')
     all_goals try refine zbx ?_
     refine v_loopB (fun ms3 S3=>∃(j:Nat),S3.e 0=.p (.sl (.lent m0) (List.map (PV.int .i64) (p)))∧S3.e 1=.p (.sl (.lent m1) (List.map (elI e1) (L)))∧OwnL (S3.e 8) S3.h S3.n (PV.int .i64) ((inO p L i).length) (inO p L i)∧S3.e 9=.p (.int .i64 (i))∧S3.e 10=.p (.int .i64 (ofK p L i j))∧S3.e 11=.p (.int .i64 (j))∧(j≤p.length)∧S2.n≤S3.n∧ms3=p.length - j) ((fun(j:Nat)=>p.length - j) (0)) ?_ ⟨0,dC fL2 ?_⟩
     all_goals try (refine zlf ?_;repeat' first|exact zso|refine And.intro ?_ ?_|(refine zim ?_;intro zb hc)|(refine zin ?_;intro zb)|intro j')
     all_goals try refine zbx ?_
     rintro ms3 S3 ⟨j,h3_0,h3_1,o3_8,h3_9,h3_10,h3_11,c3_0,u3_0,hm3⟩
     obtain⟨i3_8,h3_8,b3_8,l3_8⟩:=o3_8.out
     have ni3_8:=znds (x:=i3_8) (n:=S3.n)
     have fL3:=(And.intro h3_0 (And.intro h3_1 (And.intro h3_9 (And.intro h3_10 (And.intro h3_11 (And.intro h3_8 (And.intro b3_8 ni3_8)))))))
     ·have v1:=ofK_b (p:=p) (L:=L) (i:=i) (j:=j) (by omega)
      have v2:=lenS_take (L:=L) (j:=j)
      by_cases hj:j<p.length
      ·have v3:=ofK_b (p:=p) (L:=L) (i:=i) (j:=j+1) (by omega)
       have v4:=lenS_take (L:=L) (j:=j+1)
       have v5:=(hr _ (getD_mem (d:=[]) (show j<L.length by omega))).1
       have v6:0≤bitI (decide (p.getD j 0<p.getD i 0))*((L.getD j []).length:Int)∧bitI (decide (p.getD j 0<p.getD i 0))*((L.getD j []).length:Int)≤8:=by rw[bit_mul];split<;>omega
       refine dEa fL3 ?_
       all_goals try (refine zlf ?_;repeat' first|exact zso|refine And.intro ?_ ?_|(refine zim ?_;intro zb hc)|(refine zin ?_;intro zb)|intro j')
       all_goals try refine zbx ?_
       focus
        refine q_lp_n ((fun(j:Nat)=>p.length - j) (j+1)) (dC fL3 ?_) ⟨j+1,dC fL3 ?_⟩
        all_goals try (refine zlf ?_;repeat' first|exact zso|refine And.intro ?_ ?_|(refine zim ?_;intro zb hc)|(refine zin ?_;intro zb)|intro j')
        all_goals try refine zbx ?_
       all_goals trace_state
      ·obtain rfl:j=p.length:=by omega
       refine dEa fL3 ?_
       all_goals try (refine zlf ?_;repeat' first|exact zso|refine And.intro ?_ ?_|(refine zim ?_;intro zb hc)|(refine zin ?_;intro zb)|intro j')
       all_goals try refine zbx ?_
       refine v_loopB (fun ms4 S4=>∃(m:Nat),S4.e 0=.p (.sl (.lent m0) (List.map (PV.int .i64) (p)))∧S4.e 1=.p (.sl (.lent m1) (List.map (elI e1) (L)))∧OwnL (S4.e 8) S4.h S4.n (PV.int .i64) ((inO p L i++((L.getD i []).take m).map (fun x=>ofK p L i p.length+x)).length) (inO p L i++((L.getD i []).take m).map (fun x=>ofK p L i p.length+x))∧S4.e 9=.p (.int .i64 (i))∧S4.e 12=.p (.int .i64 (m))∧S4.e 10=.p (.int .i64 (ofK p L i p.length))∧(m≤(L.getD i []).length)∧S3.n≤S4.n∧ms4=(L.getD i []).length - m) ((fun(m:Nat)=>(L.getD i []).length - m) (0)) ?_ ⟨0,dC fL3 ?_⟩
       all_goals try (refine zlf ?_;repeat' first|exact zso|refine And.intro ?_ ?_|(refine zim ?_;intro zb hc)|(refine zin ?_;intro zb)|intro j')
       all_goals try refine zbx ?_
       rintro ms4 S4 ⟨m,h4_0,h4_1,o4_8,h4_9,h4_12,h4_10,c4_0,u4_0,hm4⟩
       obtain⟨i4_8,h4_8,b4_8,l4_8⟩:=o4_8.out
       have ni4_8:=znds (x:=i4_8) (n:=S4.n)
       have fL4:=(And.intro h4_0 (And.intro h4_1 (And.intro h4_9 (And.intro h4_12 (And.intro h4_10 (And.intro h4_8 (And.intro b4_8 ni4_8)))))))
       ·by_cases hm:m<(L.getD i []).length
        ·have w2:=w1.2 _ (getD_mem (d:=0) hm)
         refine dEa fL4 ?_
         all_goals try (refine zlf ?_;repeat' first|exact zso|refine And.intro ?_ ?_|(refine zim ?_;intro zb hc)|(refine zin ?_;intro zb)|intro j')
         all_goals try refine zbx ?_
         focus
          refine q_lp_n ((fun(m:Nat)=>(L.getD i []).length - m) (m+1)) (dC fL4 ?_) ⟨m+1,dC fL4 ?_⟩
          all_goals try (refine zlf ?_;repeat' first|exact zso|refine And.intro ?_ ?_|(refine zim ?_;intro zb hc)|(refine zin ?_;intro zb)|intro j')
          all_goals try refine zbx ?_
         all_goals(first|(rw[take_getD (d:=0) hm,List.map_append];rfl)|skip)
         all_goals trace_state
        ·refine dEa fL4 ?_
         all_goals try (refine zlf ?_;repeat' first|exact zso|refine And.intro ?_ ?_|(refine zim ?_;intro zb hc)|(refine zin ?_;intro zb)|intro j')
         all_goals try refine zbx ?_
         focus
          refine q_lp_n ((fun(i:Nat)=>p.length - i) (i+1)) (dC fL4 ?_) ⟨i+1,dC fL4 ?_⟩
          all_goals try (refine zlf ?_;repeat' first|exact zso|refine And.intro ?_ ?_|(refine zim ?_;intro zb hc)|(refine zin ?_;intro zb)|intro j')
          all_goals try refine zbx ?_
         all_goals(first|(rw[List.take_of_length_le (by omega),inO];done)|skip)
         all_goals trace_state
       all_goals trace_state
     all_goals trace_state
    ·obtain rfl:i=p.length:=by omega
     refine dEa fL2 ?_
     all_goals try (refine zlf ?_;repeat' first|exact zso|refine And.intro ?_ ?_|(refine zim ?_;intro zb hc)|(refine zin ?_;intro zb)|intro j')
     all_goals try refine zbx ?_
     all_goals trace_state
   all_goals trace_state
 all_goals(first|(simp[lenS];done)|skip)
 all_goals trace_state
def dgL (s:List UInt8):List Int:=s.map fun c=>(c.toNat:Int) - 48
def prsB (s:List UInt8):Bool:=decide (s=[45])||(!decide (s=[])&&isPermB (dgL s))
def prsL (s:List UInt8):List Int:=if s=[45]then[]else if prsB s=true then dgL s else[]
theorem dgL_take {s:List UInt8} {k:Nat} (h:k<s.length):dgL (s.take (k+1))=dgL (s.take k)++[((s.getD k 0).toNat:Int) - 48]:=by
 rw[take_getD (d:=0) h,dgL,List.map_append];rfl
theorem dgL_len {s:List UInt8}:(dgL s).length=s.length:=by simp[dgL]
theorem spec_ParsePerm_c (s:List UInt8) (hl:s.length≤1048576):Fun Tryz.prog 109 [(.str (s))] [(.sl .own (List.map (PV.int .i64) (prsL s))),(.bool (prsB s))]:=by
 refine fO sg0 [2,3] Tryz.func109 ?_
 have cE1:= @spec_IsPerm_c
 refine dEa trivial ?_
 all_goals try (refine zlf ?_;repeat' first|exact zso|refine And.intro ?_ ?_|(refine zim ?_;intro zb hc;repeat (have zc:=zb.1;replace zb:=zb.2))|(refine zin ?_;intro zb)|intro j')
 all_goals try refine zbx ?_
 ·subst hc;rfl
 ·subst hc;rfl
 ·have hn:=hc
  refine v_loopB (fun ms1 S1=>∃(k:Nat),S1.e 0=.p (.str (s))∧OwnL (S1.e 4) S1.h S1.n (PV.int .i64) ((dgL (s.take k)).length) (dgL (s.take k))∧S1.e 5=.p (.int .i64 (k))∧(k≤s.length)∧ms1=s.length - k) ((fun(k:Nat)=>s.length - k) (0)) ?_ ⟨0,dC trivial ?_⟩
  all_goals try (refine zlf ?_;repeat' first|exact zso|refine And.intro ?_ ?_|(refine zim ?_;intro zb hc;repeat (have zc:=zb.1;replace zb:=zb.2))|(refine zin ?_;intro zb)|intro j')
  all_goals try refine zbx ?_
  rintro ms1 S1 ⟨k,h1_0,o1_4,h1_5,c1_0,hm1⟩
  obtain⟨i1_4,h1_4,b1_4,l1_4⟩:=o1_4.out
  have ni1_4:=znds (x:=i1_4) (n:=S1.n)
  have fL1:=(And.intro h1_0 (And.intro h1_5 (And.intro h1_4 (And.intro b1_4 ni1_4))))
  have b1:=dgL_len (s:=s.take k)
  rw[List.length_take]at b1
  have b2:=dgL_len (s:=s)
  have b3:(s.getD k 0).toNat<256:=(s.getD k 0).toNat_lt
  have b4:=dgL_take (s:=s) (k:=k)
  by_cases hk:k<s.length
  ·have u5:(Tryz.prog.underlying 5).isSome=true:=by kernel_rfl
   refine dE (And.intro fL1 @u5) ?_
   all_goals try (refine zlf ?_;repeat' first|exact zso|refine And.intro ?_ ?_|(refine zim ?_;intro zb hc;repeat (have zc:=zb.1;replace zb:=zb.2))|(refine zin ?_;intro zb)|intro j')
   all_goals try refine zbx ?_
   all_goals try (rw[n_i64];omega)
   all_goals try exact zaut
   focus
    refine q_lp_n ((fun(k:Nat)=>s.length - k) (k+1)) (dC fL1 ?_) ⟨k+1,dC fL1 ?_⟩
    all_goals try (refine zlf ?_;repeat' first|exact zso|refine And.intro ?_ ?_|(refine zim ?_;intro zb hc;repeat (have zc:=zb.1;replace zb:=zb.2))|(refine zin ?_;intro zb)|intro j')
    all_goals try refine zbx ?_
   all_goals first|(rw[b4 hk];done)|(rw[b4 hk];simp;done)
  ·rw[List.take_of_length_le (by omega)]at*
   refine dEa fL1 ?_
   all_goals try (refine zlf ?_;repeat' first|exact zso|refine And.intro ?_ ?_|(refine zim ?_;intro zb hc;repeat (have zc:=zb.1;replace zb:=zb.2))|(refine zin ?_;intro zb)|intro j')
   all_goals try refine zbx ?_
   all_goals(simp_all [prsL,prsB];done)
theorem impl_ParsePerm_c (s:List UInt8) (hl:s.length≤1048576):Fun Tryz.prog 81 [(.str (s))] [(.sl .own (List.map (PV.int .i64) (prsL s))),(.bool (prsB s))]:=by
 refine fO sg0 [2,3] Tryz.func81 ?_
 have cE1:= @impl_IsPerm_c
 refine dEa trivial ?_
 all_goals try (refine zlf ?_;repeat' first|exact zso|refine And.intro ?_ ?_|(refine zim ?_;intro zb hc;repeat (have zc:=zb.1;replace zb:=zb.2))|(refine zin ?_;intro zb)|intro j')
 all_goals try refine zbx ?_
 ·subst hc;rfl
 ·subst hc;rfl
 ·have hn:=hc
  refine v_loopB (fun ms1 S1=>∃(k:Nat),S1.e 0=.p (.str (s))∧OwnL (S1.e 4) S1.h S1.n (PV.int .i64) ((dgL (s.take k)).length) (dgL (s.take k))∧S1.e 11=.p (.int .i64 (s.length))∧S1.e 12=.p (.int .i64 (k))∧(k≤s.length)∧ms1=s.length - k) ((fun(k:Nat)=>s.length - k) (0)) ?_ ⟨0,dC trivial ?_⟩
  all_goals try (refine zlf ?_;repeat' first|exact zso|refine And.intro ?_ ?_|(refine zim ?_;intro zb hc;repeat (have zc:=zb.1;replace zb:=zb.2))|(refine zin ?_;intro zb)|intro j')
  all_goals try refine zbx ?_
  rintro ms1 S1 ⟨k,h1_0,o1_4,h1_11,h1_12,c1_0,hm1⟩
  obtain⟨i1_4,h1_4,b1_4,l1_4⟩:=o1_4.out
  have ni1_4:=znds (x:=i1_4) (n:=S1.n)
  have fL1:=(And.intro h1_0 (And.intro h1_11 (And.intro h1_12 (And.intro h1_4 (And.intro b1_4 ni1_4)))))
  have b1:=dgL_len (s:=s.take k)
  rw[List.length_take]at b1
  have b2:=dgL_len (s:=s)
  have b3:(s.getD k 0).toNat<256:=(s.getD k 0).toNat_lt
  have b4:=dgL_take (s:=s) (k:=k)
  by_cases hk:k<s.length
  ·have u5:(Tryz.prog.underlying 5).isSome=true:=by kernel_rfl
   refine dE (And.intro fL1 @u5) ?_
   all_goals try (refine zlf ?_;repeat' first|exact zso|refine And.intro ?_ ?_|(refine zim ?_;intro zb hc;repeat (have zc:=zb.1;replace zb:=zb.2))|(refine zin ?_;intro zb)|intro j')
   all_goals try refine zbx ?_
   all_goals try (rw[n_i64];omega)
   all_goals try exact zaut
   focus
    refine q_lp_n ((fun(k:Nat)=>s.length - k) (k+1)) (dC fL1 ?_) ⟨k+1,dC fL1 ?_⟩
    all_goals try (refine zlf ?_;repeat' first|exact zso|refine And.intro ?_ ?_|(refine zim ?_;intro zb hc;repeat (have zc:=zb.1;replace zb:=zb.2))|(refine zin ?_;intro zb)|intro j')
    all_goals try refine zbx ?_
   all_goals first|(rw[b4 hk];done)|(rw[b4 hk];simp;done)
  ·rw[List.take_of_length_le (by omega)]at*
   refine dEa fL1 ?_
   all_goals try (refine zlf ?_;repeat' first|exact zso|refine And.intro ?_ ?_|(refine zim ?_;intro zb hc;repeat (have zc:=zb.1;replace zb:=zb.2))|(refine zin ?_;intro zb)|intro j')
   all_goals try refine zbx ?_
   all_goals(simp_all [prsL,prsB];done)
def spB (c:UInt8):List UInt8→List UInt8→List (List UInt8)
 |[],cur=>[cur]
 |x::s,cur=>if x=c then cur::spB c s []else spB c s (cur++[x])
def splitC (c:UInt8) (s:List UInt8):List (List UInt8):=spB c s []
theorem spB_len {c:UInt8}:∀{s cur:List UInt8},(spB c s cur).length≤s.length+1
 |[],_=>by simp[spB]
 |x::s,cur=>by
  rw[spB];split
  ·have:=spB_len (c:=c) (s:=s) (cur:=[]);simp;omega
  ·have:=spB_len (c:=c) (s:=s) (cur:=cur++[x]);simp;omega
theorem take_dropB {s:List UInt8} {f k:Nat} (h:k<s.length) (hf:f≤k):(s.take (k+1)).drop f=(s.take k).drop f++[s.getD k 0]:=by
 rw[take_getD (d:=0) h,List.drop_append_of_le_length (by simp;omega)]
theorem spec_SplitByte_c (s:List UInt8) (c:UInt8) (hl:s.length≤1048576):Fun Tryz.prog 113 [(.str (s)),(.int .u8 ((c.toNat:Int)))] [(.sl .own (List.map PV.str (splitC c s)))]:=by
 refine fO sg0 [4] Tryz.func113 ?_
 refine dEa trivial ?_
 all_goals try (refine zlf ?_;repeat' first|exact zso|refine And.intro ?_ ?_|(refine zim ?_;intro zb hc)|(refine zin ?_;intro zb)|intro j')
 all_goals try refine zbx ?_
 refine v_loopB (fun ms1 S1=>∃(k:Nat) (f:Nat) (out:List (List UInt8)),S1.e 0=.p (.str (s))∧S1.e 1=.p (.int .u8 ((c.toNat:Int)))∧OwnL (S1.e 5) S1.h S1.n PV.str ((out).length) (out)∧S1.e 6=.p (.int .i64 (f))∧S1.e 7=.p (.int .i64 (k))∧(k≤s.length+1)∧(f≤k)∧(out.length≤k)∧(k≤s.length→out++spB c (s.drop k) ((s.take k).drop f)=splitC c s)∧(k=s.length+1→out=splitC c s)∧ms1=s.length+1 - k) ((fun(k:Nat) (f:Nat) (out:List (List UInt8))=>s.length+1 - k) (0) (0) ([])) ?_ ⟨0,0,[],dIa trivial ?_⟩
 all_goals try (refine zlf ?_;repeat' first|exact zso|refine And.intro ?_ ?_|(refine zim ?_;intro zb hc)|(refine zin ?_;intro zb)|intro j')
 all_goals try refine zbx ?_
 rintro ms1 S1 ⟨k,f,out,h1_0,h1_1,o1_5,h1_6,h1_7,c1_0,c1_1,c1_2,c1_3,c1_4,hm1⟩
 obtain⟨i1_5,h1_5,b1_5,l1_5⟩:=o1_5.out
 have ni1_5:=znds (x:=i1_5) (n:=S1.n)
 have fL1:=(And.intro h1_0 (And.intro h1_1 (And.intro h1_6 (And.intro h1_7 (And.intro h1_5 (And.intro b1_5 ni1_5))))))
 have d1:=fun h=>drop_at (s:=s) (k:=k) h
 have d2:f≤k→k<s.length→(s.take (k+1)).drop f=(s.take k).drop f++[s.getD k 0]:=fun a b=>take_dropB b a
 refine dEa fL1 ?_
 all_goals try (refine zlf ?_;repeat' first|exact zso|refine And.intro ?_ ?_|(refine zim ?_;intro zb hc)|(refine zin ?_;intro zb)|intro j')
 all_goals try refine zbx ?_
 ·have e:s.getD k 0=c:=UInt8.toNat_inj.1 (by omega)
  focus
   refine q_lp_n ((fun(k:Nat) (f:Nat) (out:List (List UInt8))=>s.length+1 - k) (k+1) (k+1) (out++[(s.take k).drop f])) (dC fL1 ?_) ⟨k+1,k+1,out++[(s.take k).drop f],dC fL1 ?_⟩
   all_goals try (refine zlf ?_;repeat' first|exact zso|refine And.intro ?_ ?_|(refine zim ?_;intro zb hc)|(refine zin ?_;intro zb)|intro j')
   all_goals try refine zbx ?_
  ·intro _
   have:=c1_3 (by omega)
   rw[d1 (by omega),spB,if_pos e]at this
   rw[←this,show(s.take (k+1)).drop (k+1)=[]from List.drop_of_length_le (by simp;omega)]
 ·have e:¬s.getD k 0=c:=fun e=>hc (by rw[e])
  focus
   refine q_lp_n ((fun(k:Nat) (f:Nat) (out:List (List UInt8))=>s.length+1 - k) (k+1) (f) (out)) (dC fL1 ?_) ⟨k+1,f,out,dC fL1 ?_⟩
   all_goals try (refine zlf ?_;repeat' first|exact zso|refine And.intro ?_ ?_|(refine zim ?_;intro zb hc)|(refine zin ?_;intro zb)|intro j')
   all_goals try refine zbx ?_
  ·intro _
   have:=c1_3 (by omega)
   rw[d1 (by omega),spB,if_neg e]at this
   rw[d2 (by omega) (by omega)];exact this
 ·focus
   refine q_lp_n ((fun(k:Nat) (f:Nat) (out:List (List UInt8))=>s.length+1 - k) (k+1) (k+1) (out++[(s.take k).drop f])) (dC fL1 ?_) ⟨k+1,k+1,out++[(s.take k).drop f],dC fL1 ?_⟩
   all_goals try (refine zlf ?_;repeat' first|exact zso|refine And.intro ?_ ?_|(refine zim ?_;intro zb hc)|(refine zin ?_;intro zb)|intro j')
   all_goals try refine zbx ?_
  ·intro _
   have:=c1_3 (by omega)
   rw[List.drop_of_length_le (by omega),spB]at this
   exact this
 ·exact c1_4 (by omega)
 ·rfl
def revK (L:List Int) (i:Nat):List Int:=(List.range L.length).map fun q=>if q<i∨L.length≤q+i then L.getD (L.length - 1 - q) 0 else L.getD q 0
theorem revK_len {L:List Int} {i:Nat}:(revK L i).length=L.length:=by simp[revK]
theorem revK_get {L:List Int} {i q:Nat}:(revK L i)[q]? =if q<L.length then some (if q<i∨L.length≤q+i then L.getD (L.length - 1 - q) 0 else L.getD q 0)else none:=by
 unfold revK
 rw[List.getElem?_map]
 by_cases h:q<L.length
 ·rw[if_pos h,List.getElem?_range h];rfl
 ·rw[if_neg h,List.getElem?_eq_none (by simp;omega)];rfl
theorem getI_some {L:List Int} {i:Nat} (h:i<L.length):L[i]? =some (L.getD i 0):=by
 rw[List.getD_eq_getElem?_getD,List.getElem?_eq_getElem h];rfl
theorem revK_0 {L:List Int}:revK L 0=L:=by
 apply List.ext_getElem?;intro q
 rw[revK_get]
 by_cases h:q<L.length
 ·rw[if_pos h,if_neg (by omega),getI_some h]
 ·rw[if_neg h,List.getElem?_eq_none (by omega)]
theorem revK_end {L:List Int} {i:Nat} (h1:2*i≤L.length) (h2:L.length≤2*i+1):revK L i=L.reverse:=by
 apply List.ext_getElem?;intro q
 rw[revK_get]
 by_cases h:q<L.length
 ·rw[if_pos h,List.getElem?_reverse h,getI_some (by omega)]
  by_cases e:q<i∨L.length≤q+i
  ·rw[if_pos e]
  ·rw[if_neg e,show L.length - 1 - q=q by omega]
 ·rw[if_neg h,List.getElem?_eq_none (by simp;omega)]
theorem revK_lo {L:List Int} {i:Nat} (h:2*i+1<L.length):(revK L i).getD i 0=L.getD i 0∧(revK L i).getD (L.length - 1 - i) 0=L.getD (L.length - 1 - i) 0:=by
 constructor
 ·rw[List.getD_eq_getElem?_getD,revK_get,if_pos (by omega),if_neg (by omega)];rfl
 ·rw[List.getD_eq_getElem?_getD,revK_get,if_pos (by omega),if_neg (by omega)];rfl
theorem revK_step {L:List Int} {i:Nat} (h:2*i+1<L.length):((revK L i).set i (L.getD (L.length - 1 - i) 0)).set (L.length - 1 - i) (L.getD i 0)=revK L (i+1):=by
 apply List.ext_getElem?;intro q
 rw[List.getElem?_set,List.getElem?_set,List.length_set,revK_len,revK_get,revK_get]
 by_cases e1:L.length - 1 - i=q
 ·rw[if_pos e1,if_pos (by omega),if_pos (by omega),if_pos (by omega),←e1,show L.length - 1 - (L.length - 1 - i)=i by omega]
 ·rw[if_neg e1]
  by_cases e2:i=q
  ·subst e2;rw[if_pos rfl,if_pos (by omega),if_pos (by omega),if_pos (by omega)]
  ·rw[if_neg e2]
   by_cases hq:q<L.length
   ·rw[if_pos hq,if_pos hq]
    by_cases e3:q<i∨L.length≤q+i
    ·rw[if_pos e3,if_pos (by omega)]
    ·rw[if_neg e3,if_neg (by omega)]
   ·rw[if_neg hq,if_neg hq]
theorem slices_Reverse_int_int_c (L:List Int) (hL:L.length≤1048576):CallT Tryz.prog false 86 [.mu false (List.map (PV.int .i64) (L))] [some (List.map (PV.int .i64) (L.reverse))] []:=by
 refine fX sg0 [] Tryz.func86 ?_
 have cD1:=zdh [false,false,false,false,false,false,false,false,false,false,false,false,false,true,false,true] [(2,13),(3,13)]
 refine dEa trivial ?_
 all_goals try (refine zlf ?_;repeat' first|exact zso|refine And.intro ?_ ?_|(refine zim ?_;intro zb hc)|(refine zin ?_;intro zb)|intro j')
 all_goals try refine zbx ?_
 refine v_loopB (fun ms1 S1=>∃(i:Nat),S1.e 0=.ref 0 0 (revK L i).length∧S1.h 0=.live true (List.map (PV.int .i64) (revK L i))∧0<S1.n∧S1.e 2=.p (.int .i64 (i))∧S1.e 3=.p (.int .i64 (((L.length:Int) - 1 - i)))∧(2*i≤L.length)∧ms1=L.length - i) ((fun(i:Nat)=>L.length - i) (0)) ?_ ⟨0,dC trivial ?_⟩
 all_goals try (refine zlf ?_;repeat' first|exact zso|refine And.intro ?_ ?_|(refine zim ?_;intro zb hc)|(refine zin ?_;intro zb)|intro j')
 all_goals try refine zbx ?_
 rintro ms1 S1 ⟨i,h1_0,b1_0,l1_0,h1_2,h1_3,c1_0,hm1⟩
 have n0:=znds (x:=0) (n:=S1.n)
 have fL1:=(And.intro h1_0 (And.intro b1_0 (And.intro h1_2 (And.intro h1_3 n0))))
 ·have e0:=revK_len (L:=L) (i:=i)
  by_cases hi:2*i+1<L.length
  ·have e1:=revK_lo hi
   have e2:=revK_step hi
   have e3:((L.length:Int) - 1 - i).toNat=L.length - 1 - i:=by omega
   refine dEa (And.intro fL1 (And.intro @e0 (And.intro e1.1 (And.intro e1.2 (And.intro @e2 @e3))))) ?_
   all_goals try (refine zlf ?_;repeat' first|exact zso|refine And.intro ?_ ?_|(refine zim ?_;intro zb hc)|(refine zin ?_;intro zb)|intro j')
   all_goals try refine zbx ?_
   focus
    refine q_lp_n ((fun(i:Nat)=>L.length - i) (i+1)) (dC fL1 ?_) ⟨i+1,dC fL1 ?_⟩
    all_goals try (refine zlf ?_;repeat' first|exact zso|refine And.intro ?_ ?_|(refine zim ?_;intro zb hc)|(refine zin ?_;intro zb)|intro j')
    all_goals try refine zbx ?_
   all_goals first|omega|(rw[e0,revK_len];done)
  ·have e2:=revK_end c1_0 (by omega)
   refine dEa (And.intro fL1 (And.intro @e0 @e2)) ?_
   all_goals try (refine zlf ?_;repeat' first|exact zso|refine And.intro ?_ ?_|(refine zim ?_;intro zb hc)|(refine zin ?_;intro zb)|intro j')
   all_goals try refine zbx ?_
 ·exact revK_len.symm
 ·exact revK_0.symm
def sgRev:FuncId→List Bool:=fun f=>if f=86 then[true]else[]
theorem sgRev_eq {f:FuncId}:sgRev f=if f=86 then[true]else[]:=_root_.id rfl
theorem way_sgRev:wayE sgRev=false∧wayN sgRev=false∧wayS sgRev=false∧wayZ sgRev=false∧wayM sgRev=false:=⟨rfl,rfl,rfl,rfl,rfl⟩
attribute [go_sem] sgRev_eq way_sgRev
theorem impl_reverse_c {m0:Bool} (p:List Int) (hl:p.length≤1048576):Fun Tryz.prog 45 [(.sl (.lent m0) (List.map (PV.int .i64) (p)))] [(.sl .own (List.map (PV.int .i64) (p.reverse)))]:=by
 refine fO sgRev [2] Tryz.func45 ?_
 have cE1:= @slices_Clone_c;have cM1:= @slices_Reverse_int_int_c
 have e1:p.reverse.length=p.length:=List.length_reverse
 have e2:List.take p.length p.reverse=p.reverse:=List.take_of_length_le (by omega)
 refine dEa (And.intro @e1 @e2) ?_
 all_goals try (refine zlf ?_;repeat' first|exact zso|refine And.intro ?_ ?_|(refine zim ?_;intro zb hc)|(refine zin ?_;intro zb)|intro j')
 all_goals try refine zbx ?_
theorem spec_l3Reverse_c {m0:Bool} (p:List Int) (hl:p.length≤1048576):Fun Tryz.prog 47 [(.sl (.lent m0) (List.map (PV.int .i64) (p)))] [(.sl .own (List.map (PV.int .i64) (p.reverse)))]:=by
 refine fO sg0 [2] Tryz.func47 ?_
 refine dEa trivial ?_
 all_goals try (refine zlf ?_;repeat' first|exact zso|refine And.intro ?_ ?_|(refine zim ?_;intro zb hc)|(refine zin ?_;intro zb)|intro j')
 all_goals try refine zbx ?_
 refine v_loopB (fun ms1 S1=>∃(k:Nat),S1.e 0=.p (.sl (.lent m0) (List.map (PV.int .i64) (p)))∧OwnL (S1.e 3) S1.h S1.n (PV.int .i64) (((p.drop k).reverse).length) ((p.drop k).reverse)∧S1.e 4=.p (.int .i64 (((k:Int) - 1)))∧(k≤p.length)∧ms1=k) ((fun(k:Nat)=>k) (p.length)) ?_ ⟨p.length,dC trivial ?_⟩
 all_goals try (refine zlf ?_;repeat' first|exact zso|refine And.intro ?_ ?_|(refine zim ?_;intro zb hc)|(refine zin ?_;intro zb)|intro j')
 all_goals try refine zbx ?_
 rintro ms1 S1 ⟨k,h1_0,o1_3,h1_4,c1_0,hm1⟩
 obtain⟨i1_3,h1_3,b1_3,l1_3⟩:=o1_3.out
 have ni1_3:=znds (x:=i1_3) (n:=S1.n)
 have fL1:=(And.intro h1_0 (And.intro h1_4 (And.intro h1_3 (And.intro b1_3 ni1_3))))
 ·have e1:((k:Int) - 1).toNat=k - 1:=by omega
  have e2:(p.drop k).reverse.length=p.length - k:=by simp
  refine dEa (And.intro fL1 (And.intro @e1 @e2)) ?_
  all_goals try (refine zlf ?_;repeat' first|exact zso|refine And.intro ?_ ?_|(refine zim ?_;intro zb hc)|(refine zin ?_;intro zb)|intro j')
  all_goals try refine zbx ?_
  ·focus
    refine q_lp_n ((fun(k:Nat)=>k) (k-1)) (dC fL1 ?_) ⟨k-1,dC fL1 ?_⟩
    all_goals try (refine zlf ?_;repeat' first|exact zso|refine And.intro ?_ ?_|(refine zim ?_;intro zb hc)|(refine zin ?_;intro zb)|intro j')
    all_goals try refine zbx ?_
   ·simp;omega
   ·obtain⟨j,rfl⟩:∃j,k=j+1:=⟨k - 1,by omega⟩
    rw[Nat.add_sub_cancel,dropI_at (k:=j) (by omega),List.reverse_cons]
  ·obtain rfl:k=0:=by omega
   rw[List.drop_zero,List.take_of_length_le (by simp)]
 ·simp
 ·rw[List.drop_length];rfl
theorem impl_IsSimple_c {m0:Bool} (p:List Int) (hl:p.length≤1048576):Fun Tryz.prog 49 [(.sl (.lent m0) (List.map (PV.int .i64) (p)))] [(.bool ((isPermB p&&isSimB p)))]:=by
 refine fO sg0 [2] Tryz.func49 ?_
 have cE1:= @impl_IsPerm_c;have cE2:= @impl_isSimple_c
 by_cases hp:isPermB p=true
 ·have h8:=(isP_8 hp).1
  have hb:=perm_bd hp
  refine dEa (And.intro @hp @Bool.true_and) ?_
  all_goals try (refine zlf ?_;repeat' first|exact zso|refine And.intro ?_ ?_|(refine zim ?_;intro zb hc)|(refine zin ?_;intro zb)|intro j')
  all_goals try refine zbx ?_
  all_goals trace_state
 ·rw[Bool.not_eq_true]at hp
  refine dEa (And.intro @hp @Bool.false_and) ?_
  all_goals try (refine zlf ?_;repeat' first|exact zso|refine And.intro ?_ ?_|(refine zim ?_;intro zb hc)|(refine zin ?_;intro zb)|intro j')
  all_goals try refine zbx ?_
  all_goals trace_state
def up2:Nat→Int→Int→List Int
 |0,_,_=>[]
 |f+1,v,n=>if v≤n then v::up2 f (v+2) n else[]
end Go.Gl
