/-
  What the functions compute, and what the law asks of it: texts joined. Conditions: those that each lemma names.
-/
import Derived.Test.YtbppfpdgahopeaaGreatDoorT1
import Derived.Test.YtbppfpdgahopeaaGreatDoorT2
import Derived.Test.YtbppfpdgahopeaaGreatDoorGlC
set_option linter.unusedSimpArgs false
set_option linter.unusedVariables false
set_option maxRecDepth 20000
set_option linter.unusedSectionVars false
namespace Go.Gl
open Go Go.Proofs
variable [Amb] [NoQ]
def minT (l:List Int) (k:Nat):Int:=(l.take k).foldl min (l.getD 0 0)
def maxT (l:List Int) (k:Nat):Int:=(l.take k).foldl max (l.getD 0 0)
def minL (l:List Int):Int:=minT l l.length
def maxL (l:List Int):Int:=maxT l l.length
theorem minT_succ {l:List Int} {k:Nat} (h:k<l.length):minT l (k+1)=min (minT l k) (l.getD k 0):=by
 rw[minT,take_getD (d:=0) h,List.foldl_append];rfl
theorem maxT_succ {l:List Int} {k:Nat} (h:k<l.length):maxT l (k+1)=max (maxT l k) (l.getD k 0):=by
 rw[maxT,take_getD (d:=0) h,List.foldl_append];rfl
theorem minT_1 {l:List Int} (h:0<l.length):minT l 1=l.getD 0 0:=by
 rw[minT_succ h,minT,List.take_zero];simp
theorem maxT_1 {l:List Int} (h:0<l.length):maxT l 1=l.getD 0 0:=by
 rw[maxT_succ h,maxT,List.take_zero];simp
theorem minT_b {l:List Int} {a b:Int} (hb:∀x∈l,a≤x∧x≤b) (h0:0<l.length):∀{k:Nat},k≤l.length→a≤minT l k∧minT l k≤b
 |0,_=>by rw[minT,List.take_zero];exact hb _ (getD_mem h0)
 |k+1,h=>by
  have h1:=minT_b hb h0 (k:=k) (by omega)
  have h2:=hb _ (getD_mem (d:=0) (show k<l.length by omega))
  rw[minT_succ (by omega)];omega
theorem maxT_b {l:List Int} {a b:Int} (hb:∀x∈l,a≤x∧x≤b) (h0:0<l.length):∀{k:Nat},k≤l.length→a≤maxT l k∧maxT l k≤b
 |0,_=>by rw[maxT,List.take_zero];exact hb _ (getD_mem h0)
 |k+1,h=>by
  have h1:=maxT_b hb h0 (k:=k) (by omega)
  have h2:=hb _ (getD_mem (d:=0) (show k<l.length by omega))
  rw[maxT_succ (by omega)];omega
def segL (p:List Int) (a b:Nat):List Int:=(p.take b).drop a
theorem segL_len {p:List Int} {a b:Nat} (h:b≤p.length):(segL p a b).length=b - a:=by simp[segL];omega
theorem segL_at {p:List Int} {a b k:Nat} (h:a+k<b):(segL p a b).getD k 0=p.getD (a+k) 0:=by
 simp only[segL,List.getD_eq_getElem?_getD,List.getElem?_drop,List.getElem?_take]
 rw[if_pos h]
theorem segL_mem {p:List Int} {a b:Nat} {x:Int} (h:x∈segL p a b):x∈p:=List.mem_of_mem_take (List.mem_of_mem_drop h)
def isIntB (p:List Int) (a b:Int):Bool:=decide (maxL (segL p a.toNat b.toNat) - minL (segL p a.toNat b.toNat)=b - a - 1)
theorem slices_Min_int_int_c {m0:Bool} (l:List Int) (h0:0<l.length) (hl:l.length≤1099511627776):Fun Tryz.prog 194 [(.sl (.lent m0) (List.map (PV.int .i64) (l)))] [(.int .i64 (minL l))]:=by
 refine fO sg0 [2] Tryz.func194 ?_
 refine dEa trivial ?_
 all_goals try (refine zlf ?_;repeat' first|exact zso|refine And.intro ?_ ?_|(refine zim ?_;intro zb hc)|(refine zin ?_;intro zb)|intro j')
 all_goals try refine zbx ?_
 refine v_loopB (fun ms1 S1=>∃(k:Nat),S1.e 0=.p (.sl (.lent m0) (List.map (PV.int .i64) (l)))∧S1.e 3=.p (.int .i64 (minT l k))∧S1.e 4=.p (.int .i64 (k))∧(1≤k)∧(k≤l.length)∧ms1=l.length - k) ((fun(k:Nat)=>l.length - k) (1)) ?_ ⟨1,dIa trivial ?_⟩
 all_goals try (refine zlf ?_;repeat' first|exact zso|refine And.intro ?_ ?_|(refine zim ?_;intro zb hc)|(refine zin ?_;intro zb)|intro j')
 all_goals try refine zbx ?_
 rintro ms1 S1 ⟨k,h1_0,h1_3,h1_4,c1_0,c1_1,hm1⟩
 have fL1:=(And.intro h1_0 (And.intro h1_3 h1_4))
 refine dEa fL1 ?_
 all_goals try (refine zlf ?_;repeat' first|exact zso|refine And.intro ?_ ?_|(refine zim ?_;intro zb hc)|(refine zin ?_;intro zb)|intro j')
 all_goals try refine zbx ?_
 ·focus
   refine q_lp_n ((fun(k:Nat)=>l.length - k) (k+1)) (dC fL1 ?_) ⟨k+1,dC fL1 ?_⟩
   all_goals try (refine zlf ?_;repeat' first|exact zso|refine And.intro ?_ ?_|(refine zim ?_;intro zb hc)|(refine zin ?_;intro zb)|intro j')
   all_goals try refine zbx ?_
  rw[minT_succ (by omega)]
 ·rw[minL];congr 1;omega
 ·rw[minT_1 h0]
theorem slices_Max_int_int_c {m0:Bool} (l:List Int) (h0:0<l.length) (hl:l.length≤1099511627776):Fun Tryz.prog 193 [(.sl (.lent m0) (List.map (PV.int .i64) (l)))] [(.int .i64 (maxL l))]:=by
 refine fO sg0 [2] Tryz.func193 ?_
 refine dEa trivial ?_
 all_goals try (refine zlf ?_;repeat' first|exact zso|refine And.intro ?_ ?_|(refine zim ?_;intro zb hc)|(refine zin ?_;intro zb)|intro j')
 all_goals try refine zbx ?_
 refine v_loopB (fun ms1 S1=>∃(k:Nat),S1.e 0=.p (.sl (.lent m0) (List.map (PV.int .i64) (l)))∧S1.e 3=.p (.int .i64 (maxT l k))∧S1.e 4=.p (.int .i64 (k))∧(1≤k)∧(k≤l.length)∧ms1=l.length - k) ((fun(k:Nat)=>l.length - k) (1)) ?_ ⟨1,dIa trivial ?_⟩
 all_goals try (refine zlf ?_;repeat' first|exact zso|refine And.intro ?_ ?_|(refine zim ?_;intro zb hc)|(refine zin ?_;intro zb)|intro j')
 all_goals try refine zbx ?_
 rintro ms1 S1 ⟨k,h1_0,h1_3,h1_4,c1_0,c1_1,hm1⟩
 have fL1:=(And.intro h1_0 (And.intro h1_3 h1_4))
 refine dEa fL1 ?_
 all_goals try (refine zlf ?_;repeat' first|exact zso|refine And.intro ?_ ?_|(refine zim ?_;intro zb hc)|(refine zin ?_;intro zb)|intro j')
 all_goals try refine zbx ?_
 ·focus
   refine q_lp_n ((fun(k:Nat)=>l.length - k) (k+1)) (dC fL1 ?_) ⟨k+1,dC fL1 ?_⟩
   all_goals try (refine zlf ?_;repeat' first|exact zso|refine And.intro ?_ ?_|(refine zim ?_;intro zb hc)|(refine zin ?_;intro zb)|intro j')
   all_goals try refine zbx ?_
  rw[maxT_succ (by omega)]
 ·rw[maxL];congr 1;omega
 ·rw[maxT_1 h0]
theorem impl_isInterval_c {m0:Bool} (p:List Int) (a b:Int) (h0:0≤a) (h1:a<b) (h2:b≤p.length) (hl:p.length≤8) (hb:∀x∈p,0≤x∧x≤1048576):Fun Tryz.prog 169 [(.sl (.lent m0) (List.map (PV.int .i64) (p))),(.int .i64 (a)),(.int .i64 (b))] [(.bool (isIntB p a b))]:=by
 refine fO sg0 [6] Tryz.func169 ?_
 have cE1:= @slices_Max_int_int_c;have cE2:= @slices_Min_int_int_c
 have e1:List.drop a.toNat (List.take b.toNat p)=segL p a.toNat b.toNat:=rfl
 have e2:(segL p a.toNat b.toNat).length=b.toNat - a.toNat:=segL_len (by omega)
 have b1:=minT_b (fun x hx=>hb x (segL_mem (a:=a.toNat) (b:=b.toNat) hx)) (by omega) (Nat.le_refl _)
 have b2:=maxT_b (fun x hx=>hb x (segL_mem (a:=a.toNat) (b:=b.toNat) hx)) (by omega) (Nat.le_refl _)
 rw[←minL]at b1
 rw[←maxL]at b2
 refine dEa @e1 ?_
 all_goals try (refine zlf ?_;repeat' first|exact zso|refine And.intro ?_ ?_|(refine zim ?_;intro zb hc)|(refine zin ?_;intro zb)|intro j')
 all_goals try refine zbx ?_
 rw[isIntB,e2];congr 1;rw[eq_iff_iff];omega
theorem spec_l1Min_c (a b:Int):Fun Tryz.prog 188 [(.int .i64 (a)),(.int .i64 (b))] [(.int .i64 (min a b))]:=by
 refine fO sg0 [4] Tryz.func188 ?_
 refine dE trivial ?_
 all_goals try (refine zlf ?_;repeat' first|exact zso|refine And.intro ?_ ?_|(refine zim ?_;intro zb hc)|(refine zin ?_;intro zb)|intro j')
 all_goals try refine zbx ?_
 all_goals omega
theorem spec_l5Run_c {m0:Bool} (p:List Int) (a b:Int) (h0:0≤a) (h1:a≤b) (h2:b<p.length) (hl:p.length≤8) (hb:∀x∈p,0≤x∧x≤1048576):Fun Tryz.prog 162 [(.sl (.lent m0) (List.map (PV.int .i64) (p))),(.int .i64 (a)),(.int .i64 (b))] [(.bool (isIntB p a (b+1)))]:=by
 refine fO sg0 [6] Tryz.func162 ?_
 have cE1:= @spec_l1Min_c;have cE2:= @spec_l1Max_c
 have e2:(segL p a.toNat (b+1).toNat).length=(b+1).toNat - a.toNat:=segL_len (by omega)
 have b1:=minT_b (fun x hx=>hb x (segL_mem (a:=a.toNat) (b:=(b+1).toNat) hx)) (by omega) (Nat.le_refl _)
 have b2:=maxT_b (fun x hx=>hb x (segL_mem (a:=a.toNat) (b:=(b+1).toNat) hx)) (by omega) (Nat.le_refl _)
 rw[←minL]at b1
 rw[←maxL]at b2
 refine dEa trivial ?_
 all_goals try (refine zlf ?_;repeat' first|exact zso|refine And.intro ?_ ?_|(refine zim ?_;intro zb hc)|(refine zin ?_;intro zb)|intro j')
 all_goals try refine zbx ?_
 refine v_loopB (fun ms1 S1=>∃(k:Nat),S1.e 0=.p (.sl (.lent m0) (List.map (PV.int .i64) (p)))∧S1.e 1=.p (.int .i64 (a))∧S1.e 2=.p (.int .i64 (b))∧S1.e 7=.p (.int .i64 (minT (segL p a.toNat (b+1).toNat) k))∧S1.e 8=.p (.int .i64 (maxT (segL p a.toNat (b+1).toNat) k))∧S1.e 9=.p (.int .i64 ((a+k)))∧((k:Int)≤b+1 - a)∧ms1=(b+1 - a).toNat - k) ((fun(k:Nat)=>(b+1 - a).toNat - k) (0)) ?_ ⟨0,dI trivial ?_⟩
 all_goals try (refine zlf ?_;repeat' first|exact zso|refine And.intro ?_ ?_|(refine zim ?_;intro zb hc)|(refine zin ?_;intro zb)|intro j')
 all_goals try refine zbx ?_
 rintro ms1 S1 ⟨k,h1_0,h1_1,h1_2,h1_7,h1_8,h1_9,c1_0,hm1⟩
 have fL1:=(And.intro h1_0 (And.intro h1_1 (And.intro h1_2 (And.intro h1_7 (And.intro h1_8 h1_9)))))
 have e3:a+k<b+1→p.getD (a+k).toNat 0=(segL p a.toNat (b+1).toNat).getD k 0:=fun h=>by
  rw[segL_at (by omega)];congr 1;omega
 refine dE fL1 ?_
 all_goals try (refine zlf ?_;repeat' first|exact zso|refine And.intro ?_ ?_|(refine zim ?_;intro zb hc)|(refine zin ?_;intro zb)|intro j')
 all_goals try refine zbx ?_
 all_goals try rw[e3 (by omega)]
 all_goals try exact zaut
 ·focus
   refine q_lp_n ((fun(k:Nat)=>(b+1 - a).toNat - k) (k+1)) (dC fL1 ?_) ⟨k+1,dC fL1 ?_⟩
   all_goals try (refine zlf ?_;repeat' first|exact zso|refine And.intro ?_ ?_|(refine zim ?_;intro zb hc)|(refine zin ?_;intro zb)|intro j')
   all_goals try refine zbx ?_
  ·rw[minT_succ (by omega)]
  ·rw[maxT_succ (by omega)]
 ·have h4:=minT_b (fun x hx=>hb x (segL_mem (a:=a.toNat) (b:=(b+1).toNat) hx)) (by omega) (show k≤(segL p a.toNat (b+1).toNat).length by omega)
  have h5:=maxT_b (fun x hx=>hb x (segL_mem (a:=a.toNat) (b:=(b+1).toNat) hx)) (by omega) (show k≤(segL p a.toNat (b+1).toNat).length by omega)
  rw[n_i64];omega
 ·have h3:k=(segL p a.toNat (b+1).toNat).length:=by omega
  rw[isIntB,h3,←minL,←maxL];congr 1;rw[eq_iff_iff];omega
 ·rw[minT,List.take_zero,segL_at (by omega)];simp
 ·rw[maxT,List.take_zero,segL_at (by omega)];simp
def ivR (p:List Int) (a k:Nat):List (List Int):=(List.range k).flatMap fun i:Nat=>if(i:Int)+2<p.length∧isIntB p a (a+2+i)=true then[[(a:Int)+1,a+2+i]]else[]
def ivA (p:List Int) (a:Nat):List (List Int):=(List.range a).flatMap fun x=>ivR p x (p.length - 1 - x)
def ivsL (p:List Int):List (List Int):=ivA p p.length
theorem ivR_succ {p:List Int} {a k:Nat}:ivR p a (k+1)=ivR p a k++if(k:Int)+2<p.length∧isIntB p a (a+2+k)=true then[[(a:Int)+1,a+2+k]]else[]:=by
 simp[ivR,List.range_succ]
theorem ivA_succ {p:List Int} {a:Nat}:ivA p (a+1)=ivA p a++ivR p a (p.length - 1 - a):=by
 simp[ivA,List.range_succ]
theorem ivR_len {p:List Int} {a:Nat}:∀{k:Nat},(ivR p a k).length≤k
 |0=>by simp[ivR]
 |k+1=>by
  have:=ivR_len (p:=p) (a:=a) (k:=k)
  rw[ivR_succ,List.length_append];split<;>simp<;>omega
theorem ivA_len {p:List Int}:∀{a:Nat},(ivA p a).length≤a*p.length
 |0=>by simp[ivA]
 |a+1=>by
  have h1:=ivA_len (p:=p) (a:=a)
  have h2:=ivR_len (p:=p) (a:=a) (k:=p.length - 1 - a)
  rw[ivA_succ,List.length_append,Nat.succ_mul];omega
theorem ivA_b {p:List Int} (hl:p.length≤8) {a:Nat} (ha:a≤p.length):(ivA p a).length≤64:=
 Nat.le_trans ivA_len (Nat.le_trans (Nat.mul_le_mul ha (Nat.le_refl _)) (Nat.mul_le_mul hl hl))
theorem impl_intervals_c {m0:Bool} (p:List Int) (hl:p.length≤8) (hb:∀x∈p,0≤x∧x≤1048576):Fun Tryz.prog 173 [(.sl (.lent m0) (List.map (PV.int .i64) (p)))] [(.sl .own (List.map (elI false) (ivsL p)))]:=by
 refine fO sg0 [2] Tryz.func173 ?_
 have cE1:= @impl_isInterval_c
 refine dEa trivial ?_
 all_goals try (refine zlf ?_;repeat' first|exact zso|refine And.intro ?_ ?_|(refine zim ?_;intro zb hc)|(refine zin ?_;intro zb)|intro j')
 all_goals try refine zbx ?_
 refine v_loopB (fun ms1 S1=>∃(a:Nat),S1.e 0=.p (.sl (.lent m0) (List.map (PV.int .i64) (p)))∧OwnL (S1.e 3) S1.h S1.n (elI false) ((ivA p a).length) (ivA p a)∧S1.e 8=.p (.int .i64 (p.length))∧S1.e 9=.p (.int .i64 (a))∧(a≤p.length)∧ms1=p.length - a) ((fun(a:Nat)=>p.length - a) (0)) ?_ ⟨0,dIa trivial ?_⟩
 all_goals try (refine zlf ?_;repeat' first|exact zso|refine And.intro ?_ ?_|(refine zim ?_;intro zb hc)|(refine zin ?_;intro zb)|intro j')
 all_goals try refine zbx ?_
 rintro ms1 S1 ⟨a,h1_0,o1_3,h1_8,h1_9,c1_0,hm1⟩
 obtain⟨i1_3,h1_3,b1_3,l1_3⟩:=o1_3.out
 have ni1_3:=znds (x:=i1_3) (n:=S1.n)
 have fL1:=(And.intro h1_0 (And.intro h1_8 (And.intro h1_9 (And.intro h1_3 (And.intro b1_3 ni1_3)))))
 have c1:=ivA_b hl c1_0
 refine dEa fL1 ?_
 all_goals try (refine zlf ?_;repeat' first|exact zso|refine And.intro ?_ ?_|(refine zim ?_;intro zb hc)|(refine zin ?_;intro zb)|intro j')
 all_goals try refine zbx ?_
 ·refine v_loopB (fun ms2 S2=>∃(k:Nat),S2.e 0=.p (.sl (.lent m0) (List.map (PV.int .i64) (p)))∧OwnL (S2.e 3) S2.h S2.n (elI false) ((ivA p a++ivR p a k).length) (ivA p a++ivR p a k)∧S2.e 4=.p (.int .i64 (a))∧S2.e 5=.p (.int .i64 ((a+2+k)))∧S2.e 8=.p (.int .i64 (p.length))∧S2.e 9=.p (.int .i64 (a))∧(k≤p.length - 1 - a)∧(a<p.length)∧S1.n≤S2.n∧ms2=p.length - 1 - a - k) ((fun(k:Nat)=>p.length - 1 - a - k) (0)) ?_ ⟨0,dIa fL1 ?_⟩
  all_goals try (refine zlf ?_;repeat' first|exact zso|refine And.intro ?_ ?_|(refine zim ?_;intro zb hc)|(refine zin ?_;intro zb)|intro j')
  all_goals try refine zbx ?_
  rintro ms2 S2 ⟨k,h2_0,o2_3,h2_4,h2_5,h2_8,h2_9,c2_0,c2_1,u2_0,hm2⟩
  obtain⟨i2_3,h2_3,b2_3,l2_3⟩:=o2_3.out
  have ni2_3:=znds (x:=i2_3) (n:=S2.n)
  have fL2:=(And.intro h2_0 (And.intro h2_4 (And.intro h2_5 (And.intro h2_8 (And.intro h2_9 (And.intro h2_3 (And.intro b2_3 ni2_3)))))))
  have c2:=ivR_len (p:=p) (a:=a) (k:=k)
  refine dEa fL2 ?_
  all_goals try (refine zlf ?_;repeat' first|exact zso|refine And.intro ?_ ?_|(refine zim ?_;intro zb hc)|(refine zin ?_;intro zb)|intro j')
  all_goals try refine zbx ?_
  ·focus
    refine q_lp_n ((fun(k:Nat)=>p.length - 1 - a - k) (k+1)) (dC fL2 ?_) ⟨k+1,dC fL2 ?_⟩
    all_goals try (refine zlf ?_;repeat' first|exact zso|refine And.intro ?_ ?_|(refine zim ?_;intro zb hc)|(refine zin ?_;intro zb)|intro j')
    all_goals try refine zbx ?_
   all_goals(rw[ivR_succ,if_pos ⟨by omega,hc⟩]<;>simp[elI,Nat.add_assoc])
  ·focus
    refine q_lp_n ((fun(k:Nat)=>p.length - 1 - a - k) (k+1)) (dC fL2 ?_) ⟨k+1,dC fL2 ?_⟩
    all_goals try (refine zlf ?_;repeat' first|exact zso|refine And.intro ?_ ?_|(refine zim ?_;intro zb hc)|(refine zin ?_;intro zb)|intro j')
    all_goals try refine zbx ?_
   all_goals(rw[ivR_succ,if_neg (fun h=>by rw[h.2]at hc;cases hc),List.append_nil])
  ·focus
    refine q_lp_n ((fun(k:Nat)=>p.length - 1 - a - k) (k+1)) (dC fL2 ?_) ⟨k+1,dC fL2 ?_⟩
    all_goals try (refine zlf ?_;repeat' first|exact zso|refine And.intro ?_ ?_|(refine zim ?_;intro zb hc)|(refine zin ?_;intro zb)|intro j')
    all_goals try refine zbx ?_
   all_goals(rw[ivR_succ,if_neg (fun h=>by omega),List.append_nil])
  ·focus
    refine q_lp_n ((fun(a:Nat)=>p.length - a) (a+1)) (dC fL2 ?_) ⟨a+1,dC fL2 ?_⟩
    all_goals try (refine zlf ?_;repeat' first|exact zso|refine And.intro ?_ ?_|(refine zim ?_;intro zb hc)|(refine zin ?_;intro zb)|intro j')
    all_goals try refine zbx ?_
   all_goals(rw[ivA_succ,show k=p.length - 1 - a by omega])
  ·simp[ivR]
  ·simp[ivR]
 ·obtain rfl:a=p.length:=by omega
  rfl
theorem spec_IntervalsOf_c {m0:Bool} (p:List Int) (hp:isPermB p=true) (hl:p.length≤8) (hb:∀x∈p,0≤x∧x≤1048576):Fun Tryz.prog 124 [(.sl (.lent m0) (List.map (PV.int .i64) (p)))] [(.sl .own (List.map (elI false) (ivsL p)))]:=by
 refine fO sg0 [2] Tryz.func124 ?_
 have cE1:= @spec_IsPerm_c;have cE2:= @spec_l5Run_c
 refine dEa trivial ?_
 all_goals try (refine zlf ?_;repeat' first|exact zso|refine And.intro ?_ ?_|(refine zim ?_;intro zb hc)|(refine zin ?_;intro zb)|intro j')
 all_goals try refine zbx ?_
 refine v_loopB (fun ms1 S1=>∃(a:Nat),S1.e 0=.p (.sl (.lent m0) (List.map (PV.int .i64) (p)))∧OwnL (S1.e 3) S1.h S1.n (elI false) ((ivA p a).length) (ivA p a)∧S1.e 4=.p (.int .i64 (a))∧(a≤p.length)∧ms1=p.length - a) ((fun(a:Nat)=>p.length - a) (0)) ?_ ⟨0,dIa trivial ?_⟩
 all_goals try (refine zlf ?_;repeat' first|exact zso|refine And.intro ?_ ?_|(refine zim ?_;intro zb hc)|(refine zin ?_;intro zb)|intro j')
 all_goals try refine zbx ?_
 rintro ms1 S1 ⟨a,h1_0,o1_3,h1_4,c1_0,hm1⟩
 obtain⟨i1_3,h1_3,b1_3,l1_3⟩:=o1_3.out
 have ni1_3:=znds (x:=i1_3) (n:=S1.n)
 have fL1:=(And.intro h1_0 (And.intro h1_4 (And.intro h1_3 (And.intro b1_3 ni1_3))))
 have c1:=ivA_b hl c1_0
 refine dEa (And.intro fL1 @hp) ?_
 all_goals try (refine zlf ?_;repeat' first|exact zso|refine And.intro ?_ ?_|(refine zim ?_;intro zb hc)|(refine zin ?_;intro zb)|intro j')
 all_goals try refine zbx ?_
 ·refine v_loopB (fun ms2 S2=>∃(k:Nat),S2.e 0=.p (.sl (.lent m0) (List.map (PV.int .i64) (p)))∧OwnL (S2.e 3) S2.h S2.n (elI false) ((ivA p a++ivR p a k).length) (ivA p a++ivR p a k)∧S2.e 4=.p (.int .i64 (a))∧S2.e 5=.p (.int .i64 ((a+1+k)))∧(k≤p.length - 1 - a)∧(a<p.length)∧S1.n≤S2.n∧ms2=p.length - 1 - a - k) ((fun(k:Nat)=>p.length - 1 - a - k) (0)) ?_ ⟨0,dIa fL1 ?_⟩
  all_goals try (refine zlf ?_;repeat' first|exact zso|refine And.intro ?_ ?_|(refine zim ?_;intro zb hc)|(refine zin ?_;intro zb)|intro j')
  all_goals try refine zbx ?_
  rintro ms2 S2 ⟨k,h2_0,o2_3,h2_4,h2_5,c2_0,c2_1,u2_0,hm2⟩
  obtain⟨i2_3,h2_3,b2_3,l2_3⟩:=o2_3.out
  have ni2_3:=znds (x:=i2_3) (n:=S2.n)
  have fL2:=(And.intro h2_0 (And.intro h2_4 (And.intro h2_5 (And.intro h2_3 (And.intro b2_3 ni2_3)))))
  have c2:=ivR_len (p:=p) (a:=a) (k:=k)
  have e5:(a:Int)+1+k+1=a+2+k:=by omega
  refine dEa (And.intro fL2 @e5) ?_
  all_goals try (refine zlf ?_;repeat' first|exact zso|refine And.intro ?_ ?_|(refine zim ?_;intro zb hc)|(refine zin ?_;intro zb)|intro j')
  all_goals try refine zbx ?_
  ·focus
    refine q_lp_n ((fun(k:Nat)=>p.length - 1 - a - k) (k+1)) (dC fL2 ?_) ⟨k+1,dC fL2 ?_⟩
    all_goals try (refine zlf ?_;repeat' first|exact zso|refine And.intro ?_ ?_|(refine zim ?_;intro zb hc)|(refine zin ?_;intro zb)|intro j')
    all_goals try refine zbx ?_
   all_goals(rw[ivR_succ,if_pos ⟨by omega,hc⟩]<;>simp[elI,Nat.add_assoc])
  ·focus
    refine q_lp_n ((fun(k:Nat)=>p.length - 1 - a - k) (k+1)) (dC fL2 ?_) ⟨k+1,dC fL2 ?_⟩
    all_goals try (refine zlf ?_;repeat' first|exact zso|refine And.intro ?_ ?_|(refine zim ?_;intro zb hc)|(refine zin ?_;intro zb)|intro j')
    all_goals try refine zbx ?_
   all_goals(rw[ivR_succ,if_neg (fun h=>by rw[h.2]at hc;cases hc),List.append_nil])
  ·focus
    refine q_lp_n ((fun(k:Nat)=>p.length - 1 - a - k) (k+1)) (dC fL2 ?_) ⟨k+1,dC fL2 ?_⟩
    all_goals try (refine zlf ?_;repeat' first|exact zso|refine And.intro ?_ ?_|(refine zim ?_;intro zb hc)|(refine zin ?_;intro zb)|intro j')
    all_goals try refine zbx ?_
   all_goals(rw[ivR_succ,if_neg (fun h=>by omega),List.append_nil])
  ·focus
    refine q_lp_n ((fun(a:Nat)=>p.length - a) (a+1)) (dC fL2 ?_) ⟨a+1,dC fL2 ?_⟩
    all_goals try (refine zlf ?_;repeat' first|exact zso|refine And.intro ?_ ?_|(refine zim ?_;intro zb hc)|(refine zin ?_;intro zb)|intro j')
    all_goals try refine zbx ?_
   all_goals(rw[ivA_succ,show k=p.length - 1 - a by omega])
  ·simp[ivR]
  ·simp[ivR]
 ·obtain rfl:a=p.length:=by omega
  rfl
def isSimB (p:List Int):Bool:=decide (0<p.length)&&decide ((ivsL p).length=0)
theorem isSim_t {p:List Int} (h:0<(p.length:Int)):decide (((ivsL p).length:Int)=0)=isSimB p:=by
 rw[isSimB,decide_eq_true (by omega:0<p.length),Bool.true_and];congr 1;rw[eq_iff_iff];omega
theorem isSim_f {p:List Int} (h:(p.length:Int)≤0):false=isSimB p:=by
 rw[isSimB,decide_eq_false (by omega),Bool.false_and]
theorem perm_bd {p:List Int} (h:isPermB p=true):∀x∈p,0≤x∧x≤1048576:=fun x hx=>by
 simp only[isPermB,Bool.and_eq_true,decide_eq_true_eq]at h
 obtain⟨i,hi,rfl⟩:=List.getElem_of_mem hx
 have:=perm_at h.2 hi
 rw[List.getD_eq_getElem?_getD,List.getElem?_eq_getElem hi]at this
 simp only[Option.getD_some]at this;omega
theorem impl_isSimple_c {m0:Bool} (p:List Int) (hl:p.length≤8) (hb:∀x∈p,0≤x∧x≤1048576):Fun Tryz.prog 136 [(.sl (.lent m0) (List.map (PV.int .i64) (p)))] [(.bool (isSimB p))]:=by
 refine fO sg0 [2] Tryz.func136 ?_
 have cE1:= @impl_intervals_c
 refine dEa trivial ?_
 all_goals try (refine zlf ?_;repeat' first|exact zso|refine And.intro ?_ ?_|(refine zim ?_;intro zb hc)|(refine zin ?_;intro zb)|intro j')
 all_goals try refine zbx ?_
 ·exact isSim_t hc
 ·exact isSim_f hc
theorem spec_IsSimple_c {m0:Bool} (p:List Int) (hl:p.length≤1048576):Fun Tryz.prog 75 [(.sl (.lent m0) (List.map (PV.int .i64) (p)))] [(.bool ((isPermB p&&isSimB p)))]:=by
 by_cases hp:isPermB p=true
 ·have hl8:=(isPerm_facts hp).1
  have hb:=perm_bd hp
  have hq:=(isPerm_facts hp).2
  refine fO sg0 [2] Tryz.func75 ?_
  have cE1:= @spec_IsPerm_c;have cE2:= @spec_IntervalsOf_c
  refine dEa (And.intro @hp @Bool.true_and) ?_
  all_goals try (refine zlf ?_;repeat' first|exact zso|refine And.intro ?_ ?_|(refine zim ?_;intro zb hc)|(refine zin ?_;intro zb)|intro j')
  all_goals try refine zbx ?_
  ·exact isSim_t hc
  ·exact isSim_f hc
 ·rw[Bool.not_eq_true]at hp
  refine fO sg0 [2] Tryz.func75 ?_
  have cE1:= @spec_IsPerm_c;have cE2:= @spec_IntervalsOf_c
  refine dEa (And.intro @hp @Bool.false_and) ?_
  all_goals try (refine zlf ?_;repeat' first|exact zso|refine And.intro ?_ ?_|(refine zim ?_;intro zb hc)|(refine zin ?_;intro zb)|intro j')
  all_goals try refine zbx ?_
def spG (g:List Int→Nat→List Int) (p:List Int):Nat→List (List Int)×Nat×Int
 |0=>([],0,0)
 |k+1=>if max (spG g p k).2.2 (p.getD k 0)=k+1 then((spG g p k).1++[g (segL p (spG g p k).2.1 (k+1)) (spG g p k).2.1],k+1,max (spG g p k).2.2 (p.getD k 0))
  else((spG g p k).1,(spG g p k).2.1,max (spG g p k).2.2 (p.getD k 0))
theorem spG_from {g:List Int→Nat→List Int} {p:List Int}:∀{k:Nat},(spG g p k).2.1≤k∧(spG g p k).1.length≤k
 |0=>by simp[spG]
 |k+1=>by have:=spG_from (g:=g) (p:=p) (k:=k);rw[spG];split<;>simp<;>omega
def shI (s:List Int) (f:Nat):List Int:=s.map fun x=>x+ -(f:Int)
def ptI (s:List Int) (_:Nat):List Int:=patL s
theorem impl_raised_c {m0:Bool} (l:List Int) (d:Int) (hl:l.length≤1048576) (hb:∀x∈l, -1000000≤x∧x≤1000000) (hd: -1000000≤d∧d≤1000000):Fun Tryz.prog 175 [(.sl (.lent m0) (List.map (PV.int .i64) (l))),(.int .i64 (d))] [(.sl .own (List.map (PV.int .i64) (l.map (fun x=>x+d))))]:=by
 refine fO sg0 [4] Tryz.func175 ?_
 refine dEa trivial ?_
 all_goals try (refine zlf ?_;repeat' first|exact zso|refine And.intro ?_ ?_|(refine zim ?_;intro zb hc)|(refine zin ?_;intro zb)|intro j')
 all_goals try refine zbx ?_
 refine v_loopB (fun ms1 S1=>∃(k:Nat),S1.e 1=.p (.int .i64 (d))∧S1.e 9=.p (.sl (.lent m0) (List.map (PV.int .i64) (l)))∧S1.e 10=.p (.int .i64 (l.length))∧OwnL (S1.e 5) S1.h S1.n (PV.int .i64) (((l.take k).map (fun x=>x+d)).length) ((l.take k).map (fun x=>x+d))∧S1.e 11=.p (.int .i64 (k))∧(k≤l.length)∧ms1=l.length - k) ((fun(k:Nat)=>l.length - k) (0)) ?_ ⟨0,dI trivial ?_⟩
 all_goals try (refine zlf ?_;repeat' first|exact zso|refine And.intro ?_ ?_|(refine zim ?_;intro zb hc)|(refine zin ?_;intro zb)|intro j')
 all_goals try refine zbx ?_
 rintro ms1 S1 ⟨k,h1_1,h1_9,h1_10,o1_5,h1_11,c1_0,hm1⟩
 obtain⟨i1_5,h1_5,b1_5,l1_5⟩:=o1_5.out
 have ni1_5:=znds (x:=i1_5) (n:=S1.n)
 have fL1:=(And.intro h1_1 (And.intro h1_9 (And.intro h1_10 (And.intro h1_11 (And.intro h1_5 (And.intro b1_5 ni1_5))))))
 have b1:k<l.length→ -1000000≤l.getD k 0∧l.getD k 0≤1000000:=fun h=>hb _ (getD_mem h)
 refine dE fL1 ?_
 all_goals try (refine zlf ?_;repeat' first|exact zso|refine And.intro ?_ ?_|(refine zim ?_;intro zb hc)|(refine zin ?_;intro zb)|intro j')
 all_goals try refine zbx ?_
 all_goals try have b2:=b1 (by omega)
 all_goals try exact zaut
 ·focus
   refine q_lp_n ((fun(k:Nat)=>l.length - k) (k+1)) (dC fL1 ?_) ⟨k+1,dC fL1 ?_⟩
   all_goals try (refine zlf ?_;repeat' first|exact zso|refine And.intro ?_ ?_|(refine zim ?_;intro zb hc)|(refine zin ?_;intro zb)|intro j')
   all_goals try refine zbx ?_
  rw[take_getD (d:=0) (by omega),List.map_append];rfl
 ·rw[List.take_of_length_le (by omega)]
theorem seg_b {p:List Int} {a b:Nat} (hb:∀x∈p,0≤x∧x≤8):∀x∈segL p a b, -1000000≤x∧x≤1000000:=fun x hx=>by have:=hb x (segL_mem hx);omega
theorem perm_b8 {p:List Int} (h:isPermB p=true):∀x∈p,0≤x∧x≤8:=fun x hx=>by
 simp only[isPermB,Bool.and_eq_true,decide_eq_true_eq]at h
 have:=(permB_iff.1 h.2).1 x hx;omega
theorem spG_b {g:List Int→Nat→List Int} {p:List Int} (hb:∀x∈p,0≤x∧x≤8):∀{k:Nat},k≤p.length→0≤(spG g p k).2.2∧(spG g p k).2.2≤8
 |0,_=>by simp[spG]
 |k+1,h=>by
  have h1:=spG_b (g:=g) hb (k:=k) (by omega)
  have h2:=hb _ (getD_mem (d:=0) (show k<p.length by omega))
  rw[spG];split<;>simp only<;>omega
theorem impl_sumParts_c {m0:Bool} (p:List Int) (hl:p.length≤8) (hb:∀x∈p,0≤x∧x≤8):Fun Tryz.prog 140 [(.sl (.lent m0) (List.map (PV.int .i64) (p)))] [(.sl .own (List.map (elI false) ((spG shI p p.length).1)))]:=by
 refine fO sg0 [2] Tryz.func140 ?_
 have cE1:= @impl_raised_c
 refine dEa trivial ?_
 all_goals try (refine zlf ?_;repeat' first|exact zso|refine And.intro ?_ ?_|(refine zim ?_;intro zb hc)|(refine zin ?_;intro zb)|intro j')
 all_goals try refine zbx ?_
 refine v_loopB (fun ms1 S1=>∃(k:Nat),S1.e 9=.p (.sl (.lent m0) (List.map (PV.int .i64) (p)))∧S1.e 10=.p (.int .i64 (p.length))∧S1.e 0=.p (.sl (.lent m0) (List.map (PV.int .i64) (p)))∧OwnL (S1.e 3) S1.h S1.n (elI false) (((spG shI p k).1).length) ((spG shI p k).1)∧S1.e 4=.p (.int .i64 ((spG shI p k).2.1))∧S1.e 5=.p (.int .i64 ((spG shI p k).2.2))∧S1.e 11=.p (.int .i64 (k))∧(k≤p.length)∧ms1=p.length - k) ((fun(k:Nat)=>p.length - k) (0)) ?_ ⟨0,dC trivial ?_⟩
 all_goals try (refine zlf ?_;repeat' first|exact zso|refine And.intro ?_ ?_|(refine zim ?_;intro zb hc)|(refine zin ?_;intro zb)|intro j')
 all_goals try refine zbx ?_
 rintro ms1 S1 ⟨k,h1_9,h1_10,h1_0,o1_3,h1_4,h1_5,h1_11,c1_0,hm1⟩
 obtain⟨i1_3,h1_3,b1_3,l1_3⟩:=o1_3.out
 have ni1_3:=znds (x:=i1_3) (n:=S1.n)
 have fL1:=(And.intro h1_9 (And.intro h1_10 (And.intro h1_0 (And.intro h1_4 (And.intro h1_5 (And.intro h1_11 (And.intro h1_3 (And.intro b1_3 ni1_3))))))))
 have b1:=spG_from (g:=shI) (p:=p) (k:=k)
 have b2:=spG_b (g:=shI) hb c1_0
 have b3:List.drop (spG shI p k).2.1 (List.take (k+1) p)=segL p (spG shI p k).2.1 (k+1):=rfl
 by_cases hk:k<p.length
 ·have b4:=hb _ (getD_mem (d:=0) hk)
  have b5:(segL p (spG shI p k).2.1 (k+1)).length=k+1 - (spG shI p k).2.1:=segL_len (by omega)
  have b6:=seg_b (a:=(spG shI p k).2.1) (b:=k+1) hb
  have b7:((k:Int)+1).toNat=k+1:=by omega
  refine dEa (And.intro fL1 (And.intro @b3 @b7)) ?_
  all_goals try (refine zlf ?_;repeat' first|exact zso|refine And.intro ?_ ?_|(refine zim ?_;intro zb hc)|(refine zin ?_;intro zb)|intro j')
  all_goals try refine zbx ?_
  ·have x1:spG shI p (k+1)=_:=if_pos hc
   focus
    refine q_lp_n ((fun(k:Nat)=>p.length - k) (k+1)) (dC fL1 ?_) ⟨k+1,dC fL1 ?_⟩
    all_goals try (refine zlf ?_;repeat' first|exact zso|refine And.intro ?_ ?_|(refine zim ?_;intro zb hc)|(refine zin ?_;intro zb)|intro j')
    all_goals try refine zbx ?_
   all_goals(rw[x1];try simp[shI,ptI])
  ·have x1:spG shI p (k+1)=_:=if_neg hc
   focus
    refine q_lp_n ((fun(k:Nat)=>p.length - k) (k+1)) (dC fL1 ?_) ⟨k+1,dC fL1 ?_⟩
    all_goals try (refine zlf ?_;repeat' first|exact zso|refine And.intro ?_ ?_|(refine zim ?_;intro zb hc)|(refine zin ?_;intro zb)|intro j')
    all_goals try refine zbx ?_
   all_goals(rw[x1])
 ·refine dEa fL1 ?_
  all_goals try (refine zlf ?_;repeat' first|exact zso|refine And.intro ?_ ?_|(refine zim ?_;intro zb hc)|(refine zin ?_;intro zb)|intro j')
  all_goals try refine zbx ?_
  obtain rfl:k=p.length:=by omega
  rfl
theorem spec_SumParts_c {m0:Bool} (p:List Int) (hp:isPermB p=true):Fun Tryz.prog 126 [(.sl (.lent m0) (List.map (PV.int .i64) (p)))] [(.sl .own (List.map (elI false) ((spG ptI p p.length).1)))]:=by
 refine fO sg0 [2] Tryz.func126 ?_
 have cE1:= @spec_l1Max_c;have cE2:= @spec_IsPerm_c;have cE3:= @spec_l2Pattern_c
 have hl:=(isPerm_facts hp).1
 have hb:=perm_b8 hp
 refine dEa @hp ?_
 all_goals try (refine zlf ?_;repeat' first|exact zso|refine And.intro ?_ ?_|(refine zim ?_;intro zb hc)|(refine zin ?_;intro zb)|intro j')
 all_goals try refine zbx ?_
 refine v_loopB (fun ms1 S1=>∃(k:Nat),S1.e 0=.p (.sl (.lent m0) (List.map (PV.int .i64) (p)))∧OwnL (S1.e 3) S1.h S1.n (elI false) (((spG ptI p k).1).length) ((spG ptI p k).1)∧S1.e 4=.p (.int .i64 ((spG ptI p k).2.1))∧S1.e 5=.p (.int .i64 ((spG ptI p k).2.2))∧S1.e 6=.p (.int .i64 (k))∧(k≤p.length)∧ms1=p.length - k) ((fun(k:Nat)=>p.length - k) (0)) ?_ ⟨0,dC trivial ?_⟩
 all_goals try (refine zlf ?_;repeat' first|exact zso|refine And.intro ?_ ?_|(refine zim ?_;intro zb hc)|(refine zin ?_;intro zb)|intro j')
 all_goals try refine zbx ?_
 rintro ms1 S1 ⟨k,h1_0,o1_3,h1_4,h1_5,h1_6,c1_0,hm1⟩
 obtain⟨i1_3,h1_3,b1_3,l1_3⟩:=o1_3.out
 have ni1_3:=znds (x:=i1_3) (n:=S1.n)
 have fL1:=(And.intro h1_0 (And.intro h1_4 (And.intro h1_5 (And.intro h1_6 (And.intro h1_3 (And.intro b1_3 ni1_3))))))
 have b1:=spG_from (g:=ptI) (p:=p) (k:=k)
 have b2:=spG_b (g:=ptI) hb c1_0
 have b3:List.drop (spG ptI p k).2.1 (List.take (k+1) p)=segL p (spG ptI p k).2.1 (k+1):=rfl
 by_cases hk:k<p.length
 ·have b4:=hb _ (getD_mem (d:=0) hk)
  have b5:(segL p (spG ptI p k).2.1 (k+1)).length=k+1 - (spG ptI p k).2.1:=segL_len (by omega)
  have b7:((k:Int)+1).toNat=k+1:=by omega
  refine dEa (And.intro fL1 (And.intro @b3 @b7)) ?_
  all_goals try (refine zlf ?_;repeat' first|exact zso|refine And.intro ?_ ?_|(refine zim ?_;intro zb hc)|(refine zin ?_;intro zb)|intro j')
  all_goals try refine zbx ?_
  ·have x1:spG ptI p (k+1)=_:=if_pos hc
   focus
    refine q_lp_n ((fun(k:Nat)=>p.length - k) (k+1)) (dC fL1 ?_) ⟨k+1,dC fL1 ?_⟩
    all_goals try (refine zlf ?_;repeat' first|exact zso|refine And.intro ?_ ?_|(refine zim ?_;intro zb hc)|(refine zin ?_;intro zb)|intro j')
    all_goals try refine zbx ?_
   all_goals(rw[x1];try simp[shI,ptI])
  ·have x1:spG ptI p (k+1)=_:=if_neg hc
   focus
    refine q_lp_n ((fun(k:Nat)=>p.length - k) (k+1)) (dC fL1 ?_) ⟨k+1,dC fL1 ?_⟩
    all_goals try (refine zlf ?_;repeat' first|exact zso|refine And.intro ?_ ?_|(refine zim ?_;intro zb hc)|(refine zin ?_;intro zb)|intro j')
    all_goals try refine zbx ?_
   all_goals(rw[x1])
 ·refine dEa fL1 ?_
  all_goals try (refine zlf ?_;repeat' first|exact zso|refine And.intro ?_ ?_|(refine zim ?_;intro zb hc)|(refine zin ?_;intro zb)|intro j')
  all_goals try refine zbx ?_
  obtain rfl:k=p.length:=by omega
  rfl
theorem spec_SumParts_n_c {m0:Bool} (p:List Int) (hl:p.length≤1048576) (hn:isPermB p=false):Fun Tryz.prog 126 [(.sl (.lent m0) (List.map (PV.int .i64) (p)))] [(.sl .own (List.map (elI false) ([])))]:=by
 refine fO sg0 [2] Tryz.func126 ?_
 have cE1:= @spec_l1Max_c;have cE2:= @spec_IsPerm_c;have cE3:= @spec_l2Pattern_c
 refine dEa @hn ?_
 all_goals try (refine zlf ?_;repeat' first|exact zso|refine And.intro ?_ ?_|(refine zim ?_;intro zb hc)|(refine zin ?_;intro zb)|intro j')
 all_goals try refine zbx ?_
def srtB (l:List Int):Bool:=(List.range l.length).all fun i=>decide (i=0)||decide (l.getD (i - 1) 0≤l.getD i 0)
theorem srtB_iff {l:List Int}:srtB l=true↔∀i,i<l.length→0<i→l.getD (i - 1) 0≤l.getD i 0:=by
 simp only[srtB,List.all_eq_true,List.mem_range,Bool.or_eq_true,decide_eq_true_eq]
 constructor
 ·intro h i hi h0;rcases h i hi with h|h
  ·omega
  ·exact h
 ·intro h i hi
  by_cases h0:i=0
  ·exact .inl h0
  ·exact .inr (h i hi (by omega))
theorem cmp_Less_int_c (x:Int) (y:Int):Fun Tryz.prog 199 [(.int .i64 (x)),(.int .i64 (y))] [(.bool (decide (x<y)))]:=by
 refine fO sg0 [4] Tryz.func199 ?_
 have cE1:= @cmp_isNaN_int_c
 refine dEa trivial ?_
 all_goals try (refine zlf ?_;repeat' first|exact zso|refine And.intro ?_ ?_|(refine zim ?_;intro zb hc)|(refine zin ?_;intro zb)|intro j')
 all_goals try refine zbx ?_
theorem slices_IsSorted_int_int_c {m0:Bool} (l:List Int) (hl:l.length≤1048576):Fun Tryz.prog 172 [(.sl (.lent m0) (List.map (PV.int .i64) (l)))] [(.bool (srtB l))]:=by
 refine fO sg0 [2] Tryz.func172 ?_
 have cE1:= @cmp_Less_int_c;have cD1:=zdh [false,false,false,false,false,false,false,false,false,true] []
 refine dEa trivial ?_
 all_goals try (refine zlf ?_;repeat' first|exact zso|refine And.intro ?_ ?_|(refine zim ?_;intro zb hc)|(refine zin ?_;intro zb)|intro j')
 all_goals try refine zbx ?_
 refine v_loopB (fun ms1 S1=>∃(k:Nat),S1.e 0=.p (.sl (.lent m0) (List.map (PV.int .i64) (l)))∧S1.e 3=.p (.int .i64 (k - 1))∧(k≤l.length)∧(∀i,k≤i→i<l.length→0<i→l.getD (i - 1) 0≤l.getD i 0)∧ms1=k) ((fun(k:Nat)=>k) (l.length)) ?_ ⟨l.length,dIa trivial ?_⟩
 all_goals try (refine zlf ?_;repeat' first|exact zso|refine And.intro ?_ ?_|(refine zim ?_;intro zb hc)|(refine zin ?_;intro zb)|intro j')
 all_goals try refine zbx ?_
 rintro ms1 S1 ⟨k,h1_0,h1_3,c1_0,c1_1,hm1⟩
 have fL1:=(And.intro h1_0 h1_3)
 have e1:((k:Int) - 1).toNat=k - 1:=by omega
 have e2:((k:Int) - 1 - 1).toNat=k - 1 - 1:=by omega
 refine dEa fL1 ?_
 all_goals try (refine zlf ?_;repeat' first|exact zso|refine And.intro ?_ ?_|(refine zim ?_;intro zb hc)|(refine zin ?_;intro zb)|intro j')
 all_goals try refine zbx ?_
 ·refine(Bool.eq_false_iff.2 fun h=> ?_).symm
  have:=srtB_iff.1 h (k - 1) (by omega) (by omega)
  rw[e1,e2]at hc;omega
 ·focus
   refine q_lp_n ((fun(k:Nat)=>k) (k-1)) (dC fL1 ?_) ⟨k-1,dC fL1 ?_⟩
   all_goals try (refine zlf ?_;repeat' first|exact zso|refine And.intro ?_ ?_|(refine zim ?_;intro zb hc)|(refine zin ?_;intro zb)|intro j')
   all_goals try refine zbx ?_
  intro i h1 h2 h3
  by_cases h4:i=k - 1
  ·subst h4;rw[e1,e2]at hc;exact hc
  ·exact c1_1 i (by omega) h2 h3
 ·refine(srtB_iff.2 fun i h1 h2=>c1_1 i (by omega) h1 h2).symm
def upB (p:List Int):Bool:=decide (p=idL p.length)
def dnB (p:List Int):Bool:=decide (p.reverse=idL p.length)
theorem idL_at {n i:Nat} (h:i<n):(idL n).getD i 0=(i:Int)+1:=by
 rw[List.getD_eq_getElem?_getD,idL,List.getElem?_map,List.getElem?_range h];rfl
theorem srt_up {p:List Int} (hp:permB p=true):srtB p=upB p:=by
 obtain⟨h1,h2⟩:=permB_iff.1 hp
 rw[Bool.eq_iff_iff,srtB_iff,upB,decide_eq_true_iff]
 constructor
 ·intro hs
  have lt:∀i,i+1<p.length→p.getD i 0<p.getD (i+1) 0:=fun i hi=>by
   have a:=hs (i+1) hi (by omega)
   rw[Nat.add_sub_cancel]at a
   have b:p.getD i 0≠p.getD (i+1) 0:=fun e=>by have:=perm_inj hp (by omega) hi e;omega
   omega
  have lo:∀i,i<p.length→(i:Int)+1≤p.getD i 0:=fun i=>by
   induction i with
   |zero=>intro hi;have:=(h1 _ (getD_mem (d:=0) hi)).1;omega
   |succ i ih=>intro hi;have:=ih (by omega);have:=lt i hi;omega
  have hi:∀d i,i+d+1=p.length→p.getD i 0≤(i:Int)+1:=fun d=>by
   induction d with
   |zero=>intro i h;have:=(h1 _ (getD_mem (d:=0) (show i<p.length by omega))).2;omega
   |succ d ih=>intro i h;have:=ih (i+1) (by omega);have:=lt i (by omega);omega
  refine List.ext_getElem (by rw[idL_len]) fun i a b=> ?_
  have x1:=lo i a
  have x2:=hi (p.length - i - 1) i (by omega)
  have x3:=idL_at a
  rw[List.getD_eq_getElem?_getD,List.getElem?_eq_getElem a]at x1 x2
  rw[List.getD_eq_getElem?_getD,List.getElem?_eq_getElem b]at x3
  simp at x1 x2 x3;omega
 ·intro e i h3 h4
  have x1:=idL_at (n:=p.length) (i:=i - 1) (by omega)
  have x2:=idL_at (n:=p.length) (i:=i) h3
  rw[←e]at x1 x2;omega
theorem impl_isRising_c {m0:Bool} (p:List Int) (hp:isPermB p=true):Fun Tryz.prog 134 [(.sl (.lent m0) (List.map (PV.int .i64) (p)))] [(.bool (upB p))]:=by
 refine fO sg0 [2] Tryz.func134 ?_
 have cE1:= @slices_IsSorted_int_int_c
 obtain⟨h8,hq⟩:p.length≤8∧permB p=true:=by simpa[isPermB]using hp
 refine dEa trivial ?_
 all_goals try (refine zlf ?_;repeat' first|exact zso|refine And.intro ?_ ?_|(refine zim ?_;intro zb hc)|(refine zin ?_;intro zb)|intro j')
 all_goals try refine zbx ?_
 all_goals exact srt_up hq
theorem dn_dec {p:List Int}:decide (p=(idL p.length).reverse)=dnB p:=by
 rw[dnB,decide_eq_decide]
 exact⟨fun h=>by rw[h,List.reverse_reverse,List.length_reverse,idL_len],fun h=>by rw[←h,List.reverse_reverse]⟩
theorem impl_isFalling_c {m0:Bool} (p:List Int) (hp:isPermB p=true):Fun Tryz.prog 142 [(.sl (.lent m0) (List.map (PV.int .i64) (p)))] [(.bool (dnB p))]:=by
 refine fO sg0 [2] Tryz.func142 ?_
 have cE1:= @impl_identity_c;have cE2:= @impl_reverse_c;have cE3:= @slices_Equal_int_int_c
 obtain⟨h8,hq⟩:p.length≤8∧permB p=true:=by simpa[isPermB]using hp
 have e1:(idL p.length).length=p.length:=idL_len
 have e2:(idL p.length).reverse.length=p.length:=by rw[List.length_reverse,idL_len]
 have e3:List.take p.length (idL p.length)=idL p.length:=List.take_of_length_le (by omega)
 have e4:List.take p.length (idL p.length).reverse=(idL p.length).reverse:=List.take_of_length_le (by omega)
 refine dEa (And.intro @e1 (And.intro @e2 (And.intro @e3 @e4))) ?_
 all_goals try (refine zlf ?_;repeat' first|exact zso|refine And.intro ?_ ?_|(refine zim ?_;intro zb hc)|(refine zin ?_;intro zb)|intro j')
 all_goals try refine zbx ?_
 all_goals exact dn_dec
theorem spec_l13Straight_c {m0:Bool} (p:List Int) (hp:p.length≤8):Fun Tryz.prog 71 [(.sl (.lent m0) (List.map (PV.int .i64) (p)))] [(.bool (upB p))]:=by
 refine fO sg0 [2] Tryz.func71 ?_
 have cE1:= @spec_IdentityPerm_c;have cE2:= @spec_l2Same_c
 have e1:(idL p.length).length=p.length:=idL_len
 have e3:List.take p.length (idL p.length)=idL p.length:=List.take_of_length_le (by omega)
 refine dEa (And.intro @e1 @e3) ?_
 all_goals try (refine zlf ?_;repeat' first|exact zso|refine And.intro ?_ ?_|(refine zim ?_;intro zb hc)|(refine zin ?_;intro zb)|intro j')
 all_goals try refine zbx ?_
 all_goals rfl
theorem two_not {a b:Int}:∀{l:List Int},l.Nodup→[a,b].Sublist l→[b,a].Sublist l→False
 |[],_,h,_=>by cases h
 |x::l,hn,h1,h2=>by
  obtain⟨n1,n2⟩:=List.nodup_cons.1 hn
  rcases List.sublist_cons_iff.1 h1 with g1|⟨r1,e1,g1⟩
  ·rcases List.sublist_cons_iff.1 h2 with g2|⟨r2,e2,g2⟩
   ·exact two_not n2 g1 g2
   ·cases e2;exact n1 (g1.subset (by simp))
  ·cases e1
   rcases List.sublist_cons_iff.1 h2 with g2|⟨r2,e2,g2⟩
   ·exact n1 (g2.subset (by simp))
   ·cases e2;exact n1 (g1.subset (by simp))
theorem two_or {a b:Int} (ne:a≠b):∀{l:List Int},a∈l→b∈l→[a,b].Sublist l∨[b,a].Sublist l
 |[],h,_=>by cases h
 |x::l,ha,hb=>by
  rcases List.mem_cons.1 ha with e1|g1
  ·rcases List.mem_cons.1 hb with e2|g2
   ·exact absurd (e1.trans e2.symm) ne
   ·subst e1;exact .inl ((List.singleton_sublist.2 g2).cons_cons _)
  ·rcases List.mem_cons.1 hb with e2|g2
   ·subst e2;exact .inr ((List.singleton_sublist.2 g1).cons_cons _)
   ·rcases two_or ne g1 g2 with h|h
    ·exact .inl (h.cons _)
    ·exact .inr (h.cons _)
theorem cnt_lt {α:Type} {f g:α→Bool}:∀{l:List α},(∀x∈l,f x=true→g x=true)→(∃x∈l,f x=false∧g x=true)→l.countP f<l.countP g
 |[],_,⟨x,h,_⟩=>by cases h
 |y::l,h,⟨x,hx,h1,h2⟩=>by
  have hm:l.countP f≤l.countP g:=List.countP_mono_left fun x hx=>h x (List.mem_cons_of_mem _ hx)
  rw[List.countP_cons,List.countP_cons]
  rcases List.mem_cons.1 hx with e|g1
  ·subst e;rw[h1,h2];simp;omega
  ·have:=cnt_lt (fun x hx=>h x (List.mem_cons_of_mem _ hx)) ⟨x,g1,h1,h2⟩
   have hy:=h y List.mem_cons_self
   cases hf:f y with
   |true=>rw[hy hf];simp;omega
   |false=>cases g y<;>simp<;>omega
def prs2 (n:Nat):List (Nat×Nat):=(List.range n).flatMap fun i=>(List.range n).map fun j=>(i,j)
def mIv (p:List Int):Nat:=(prs2 p.length).countP fun x=>decide (x.1<x.2)&&decide ([(x.2:Int)+1,(x.1:Int)+1].Sublist p)
theorem prs2_mem {n i j:Nat}:(i,j)∈prs2 n↔i<n∧j<n:=by
 unfold prs2
 simp only[List.mem_flatMap,List.mem_map,List.mem_range,Prod.mk.injEq]
 constructor
 ·rintro⟨a,h1,b,h2,e1,e2⟩;omega
 ·rintro⟨h1,h2⟩;exact⟨i,h1,j,h2,rfl,rfl⟩
theorem fm_len {α β:Type} {f:α→List β} {n:Nat} (h:∀x,(f x).length=n):∀{l:List α},(l.flatMap f).length=l.length*n
 |[]=>by simp
 |x::l=>by rw[List.flatMap_cons,List.length_append,h,fm_len h,List.length_cons,Nat.succ_mul];omega
theorem prs2_len {n:Nat}:(prs2 n).length=n*n:=by
 unfold prs2;rw[fm_len (n:=n) (fun x=>by simp),List.length_range]
theorem mIv_le {p:List Int}:mIv p≤p.length*p.length:=by rw[←prs2_len];exact List.countP_le_length
theorem mIv_lt {p q:List Int} (hp:permB p=true) (hq:permB q=true) (hl:q.length=p.length) (h1:∀a b,a<b→[a,b].Sublist p→[a,b].Sublist q)
  (h2:∃a b,a<b∧[b,a].Sublist p∧[a,b].Sublist q):mIv q<mIv p:=by
 obtain⟨p1,p2⟩:=permB_iff.1 hp
 obtain⟨q1,q2⟩:=permB_iff.1 hq
 unfold mIv
 rw[hl]
 refine cnt_lt (fun x hx hc=> ?_) ?_
 ·obtain⟨i,j⟩:=x
  obtain⟨x1,x2⟩:=prs2_mem.1 hx
  simp only[Bool.and_eq_true,decide_eq_true_eq]at hc ⊢
  refine⟨hc.1, ?_⟩
  rcases two_or (a:=(i:Int)+1) (b:=(j:Int)+1) (l:=p) (by omega) (perm_mem hp (by omega) (by omega)) (perm_mem hp (by omega) (by omega))with g|g
  ·exact absurd (h1 _ _ (by omega) g) fun g'=>two_not q2 g' hc.2
  ·exact g
 ·obtain⟨a,b,ab,s1,s2⟩:=h2
  have ha:=p1 a (s1.subset (by simp))
  have hb:=p1 b (s1.subset (by simp))
  refine⟨((a - 1).toNat,(b - 1).toNat),prs2_mem.2 ⟨by omega,by omega⟩, ?_, ?_⟩
  ·rw[Bool.and_eq_false_iff];right
   rw[decide_eq_false_iff_not]
   simp only
   rw[show(((b - 1).toNat:Nat):Int)+1=b by omega,show(((a - 1).toNat:Nat):Int)+1=a by omega]
   exact fun g=>two_not q2 s2 g
  ·simp only[Bool.and_eq_true,decide_eq_true_eq]
   rw[show(((b - 1).toNat:Nat):Int)+1=b by omega,show(((a - 1).toNat:Nat):Int)+1=a by omega]
   exact⟨by omega,s1⟩
theorem not_up {p:List Int} (hp:permB p=true) (h:upB p=false):∃X Y a b,a<b∧p=X++b::a::Y:=by
 have h1:¬srtB p=true:=by rw[srt_up hp,h];decide
 rw[srtB_iff]at h1
 obtain⟨i,h2⟩:=Classical.not_forall.1 h1
 obtain⟨hi,h3⟩:=Classical.not_forall.1 h2
 obtain⟨hi0,h4⟩:=Classical.not_forall.1 h3
 obtain⟨k,rfl⟩:∃k,i=k+1:=⟨i - 1,by omega⟩
 refine⟨p.take k,p.drop (k+1+1),p.getD (k+1) 0,p.getD k 0,by simp only[Nat.add_sub_cancel]at h4;omega, ?_⟩
 rw[←dropI_at hi,←dropI_at (by omega),List.take_append_drop]
def skP:List Int→List Int→List Int
 |[],st=>st
 |x::xs,st=>st.takeWhile (fun y=>decide (y<x))++skP xs (x::st.dropWhile (fun y=>decide (y<x)))
theorem skP_perm:∀{xs st:List Int},(skP xs st).Perm (xs++st)
 |[],st=>List.Perm.refl _
 |x::xs,st=>by
  rw[skP]
  refine(List.Perm.append_left _ (skP_perm (xs:=xs))).trans ?_
  have h:(st.takeWhile (fun y=>decide (y<x))++(xs++x::st.dropWhile (fun y=>decide (y<x)))).Perm (x::(xs++(st.takeWhile (fun y=>decide (y<x))++st.dropWhile (fun y=>decide (y<x))))):=by
   refine(List.Perm.append_left _ List.perm_middle).trans ?_
   refine List.perm_middle.trans (List.Perm.cons _ ?_)
   rw[←List.append_assoc,←List.append_assoc]
   exact List.Perm.append_right _ List.perm_append_comm
  rw[List.takeWhile_append_dropWhile]at h
  exact h
theorem sub_app {a b:Int} {A B:List Int} (ha:a∈A) (hb:b∈B):[a,b].Sublist (A++B):=by
 have:=(List.singleton_sublist.2 ha).append (List.singleton_sublist.2 hb)
 exact this
theorem skP_st {a b:Int}:∀{xs st:List Int},[a,b].Sublist st→[a,b].Sublist (skP xs st)
 |[],_,h=>h
 |x::xs,st,h=>by
  rw[skP]
  have e:st=st.takeWhile (fun y=>decide (y<x))++st.dropWhile (fun y=>decide (y<x)):=List.takeWhile_append_dropWhile.symm
  rw[e]at h
  obtain⟨l1,l2,e1,s1,s2⟩:=List.sublist_append_iff.1 h
  match l1,e1 with
  |[],e1=>
   simp only[List.nil_append]at e1;subst e1
   exact(skP_st (xs:=xs) (s2.cons _)).trans (List.sublist_append_right _ _)
  |[y],e1=>
   simp only[List.singleton_append,List.cons.injEq]at e1
   obtain⟨rfl,rfl⟩:=e1
   refine sub_app (s1.subset (by simp)) ((skP_perm (xs:=xs)).mem_iff.2 ?_)
   have:=s2.subset (show b∈[b]by simp)
   simp[this]
  |[y,z],e1=>
   simp only[List.cons_append,List.nil_append,List.cons.injEq]at e1
   obtain⟨rfl,rfl,_⟩:=e1
   exact s1.trans (List.sublist_append_left _ _)
  |_::_::_::_,e1=>simp at e1
theorem skP_in {a b:Int} (ab:a<b):∀{xs st:List Int},st.Pairwise (·≤·)→a∈st→b∈xs→[a,b].Sublist (skP xs st)
 |[],_,_,_,h=>by cases h
 |x::xs,st,hs,ha,hb=>by
  rw[skP]
  have e:st=st.takeWhile (fun y=>decide (y<x))++st.dropWhile (fun y=>decide (y<x)):=List.takeWhile_append_dropWhile.symm
  have hs':=hs
  rw[e]at ha hs'
  by_cases hm:a∈st.takeWhile (fun y=>decide (y<x))
  ·refine sub_app hm ((skP_perm (xs:=xs)).mem_iff.2 ?_)
   rcases List.mem_cons.1 hb with e'|g
   ·subst e';simp
   ·simp[g]
  ·have hd:a∈st.dropWhile (fun y=>decide (y<x)):=by
    rcases List.mem_append.1 ha with g|g
    ·exact absurd g hm
    ·exact g
   have hge:∀y∈st.dropWhile (fun y=>decide (y<x)),x≤y:=by
    have h2:=(List.pairwise_append.1 hs').2.1
    intro y hy
    cases hD:st.dropWhile (fun y=>decide (y<x))with
    |nil=>rw[hD]at hy;cases hy
    |cons z zs=>
     have hz:¬z<x:=by
      have:=List.head_dropWhile_not (fun y=>decide (y<x)) (l:=st) (by rw[hD];simp)
      simp only[hD,List.head_cons]at this
      simpa using this
     rw[hD]at hy h2
     rcases List.mem_cons.1 hy with e'|g
     ·omega
     ·have:=(List.pairwise_cons.1 h2).1 y g;omega
   have hx:=hge a hd
   rcases List.mem_cons.1 hb with e'|g
   ·omega
   ·exact(skP_in ab (List.pairwise_cons.2 ⟨hge,(List.pairwise_append.1 hs').2.1⟩) (by simp[hd]) g).trans (List.sublist_append_right _ _)
theorem skP_push {x:Int} {st:List Int} (hs:st.Pairwise (·≤·)):(x::st.dropWhile (fun y=>decide (y<x))).Pairwise (·≤·):=by
 have hs':=hs
 rw[show st=st.takeWhile (fun y=>decide (y<x))++st.dropWhile (fun y=>decide (y<x))from List.takeWhile_append_dropWhile.symm]at hs'
 have h2:=(List.pairwise_append.1 hs').2.1
 refine List.pairwise_cons.2 ⟨fun y hy=> ?_,h2⟩
 cases hD:st.dropWhile (fun y=>decide (y<x))with
 |nil=>rw[hD]at hy;cases hy
 |cons z zs=>
  have hz:¬z<x:=by
   have:=List.head_dropWhile_not (fun y=>decide (y<x)) (l:=st) (by rw[hD];simp)
   simp only[hD,List.head_cons]at this
   simpa using this
  rw[hD]at hy h2
  rcases List.mem_cons.1 hy with e'|g
  ·omega
  ·have:=(List.pairwise_cons.1 h2).1 y g;omega
theorem skP_ab {a b:Int} (ab:a<b):∀{xs st:List Int},st.Pairwise (·≤·)→[a,b].Sublist xs→[a,b].Sublist (skP xs st)
 |[],_,_,h=>by cases h
 |x::xs,st,hs,h=>by
  rw[skP]
  refine List.Sublist.trans ?_ (List.sublist_append_right _ _)
  rcases List.sublist_cons_iff.1 h with g|⟨r,e,g⟩
  ·exact skP_ab ab (skP_push hs) g
  ·cases e
   exact skP_in ab (skP_push hs) (by simp) (g.subset (by simp))
theorem skP_fall {a b:Int} (ab:a<b) {Y:List Int}:∀{X st:List Int},[a,b].Sublist (skP (X++b::a::Y) st)
 |[],st=>by
  rw[List.nil_append,skP,skP]
  have e:(b::st.dropWhile (fun y=>decide (y<b))).dropWhile (fun y=>decide (y<a))=b::st.dropWhile (fun y=>decide (y<b)):=by
   rw[List.dropWhile_cons,if_neg (by simp;omega)]
  rw[e]
  refine List.Sublist.trans ?_ (List.sublist_append_right _ _)
  refine List.Sublist.trans ?_ (List.sublist_append_right _ _)
  exact skP_st (((List.nil_sublist _).cons_cons b).cons_cons a)
 |x::X,st=>by
  rw[List.cons_append,skP]
  exact(skP_fall ab (X:=X)).trans (List.sublist_append_right _ _)
theorem perm_of {p q:List Int} (hp:permB p=true) (h:q.Perm p):permB q=true:=by
 obtain⟨h1,h2⟩:=permB_iff.1 hp
 exact permB_iff.2 ⟨fun v hv=>by rw[h.length_eq];exact h1 v (h.mem_iff.1 hv),h.nodup_iff.2 h2⟩
def skF (p:List Int):List Int:=skP p []
theorem skF_ok {p:List Int} (hp:permB p=true):permB (skF p)=true∧(skF p).length=p.length∧(upB p=false→mIv (skF p)<mIv p):=by
 have h:=skP_perm (xs:=p) (st:=[])
 rw[List.append_nil]at h
 have hq:=perm_of hp h
 refine⟨hq,h.length_eq,fun hu=>mIv_lt hp hq h.length_eq (fun a b ab g=>skP_ab ab List.Pairwise.nil g) ?_⟩
 obtain⟨X,Y,a,b,ab,e⟩:=not_up hp hu
 refine⟨a,b,ab, ?_, ?_⟩
 ·rw[e];exact(((List.nil_sublist _).cons_cons a).cons_cons b).trans (List.sublist_append_right _ _)
 ·rw[skF,e];exact skP_fall ab
def ppR:List Int→List Int→List Int
 |[],st=>st
 |x::xs,[]=>ppR xs [x]
 |x::xs,y::st=>if x<y then ppR xs (x::y::st)else(y::st)++ppR xs [x]
theorem ppR_perm:∀{xs st:List Int},(ppR xs st).Perm (xs++st)
 |[],st=>by cases st<;>exact List.Perm.refl _
 |x::xs,[]=>by
  rw[ppR,List.append_nil]
  exact(ppR_perm (xs:=xs)).trans (List.perm_append_comm)
 |x::xs,y::st=>by
  rw[ppR]
  split
  ·exact(ppR_perm (xs:=xs)).trans List.perm_middle
  ·refine(List.Perm.append_left _ (ppR_perm (xs:=xs))).trans ?_
   refine List.perm_append_comm.trans ?_
   rw[List.append_assoc]
   exact List.perm_middle.trans (List.Perm.refl _)
theorem ppR_st:∀{xs st:List Int},st.Sublist (ppR xs st)
 |[],st=>by cases st<;>exact List.Sublist.refl _
 |x::xs,[]=>List.nil_sublist _
 |x::xs,y::st=>by
  rw[ppR]
  split
  ·exact(List.sublist_cons_self x _).trans (ppR_st (xs:=xs))
  ·exact List.sublist_append_left _ _
theorem ppR_in {a b:Int} (ab:a<b):∀{xs st:List Int},st.Pairwise (·≤·)→a∈st→b∈xs→[a,b].Sublist (ppR xs st)
 |[],_,_,_,h=>by cases h
 |x::xs,[],_,h,_=>by cases h
 |x::xs,y::st,hs,ha,hb=>by
  have hy:y≤a:=by
   rcases List.mem_cons.1 ha with e|g
   ·omega
   ·exact(List.pairwise_cons.1 hs).1 a g
  rw[ppR]
  split
  ·rename_i hx
   refine ppR_in ab (List.pairwise_cons.2 ⟨fun z hz=> ?_,hs⟩) (by simp[List.mem_cons.1 ha]) ?_
   ·rcases List.mem_cons.1 hz with e|g
    ·omega
    ·have:=(List.pairwise_cons.1 hs).1 z g;omega
   ·rcases List.mem_cons.1 hb with e|g
    ·omega
    ·exact g
  ·refine sub_app ha ((ppR_perm (xs:=xs)).mem_iff.2 ?_)
   rcases List.mem_cons.1 hb with e|g
   ·simp[e]
   ·simp[g]
theorem ppR_ab {a b:Int} (ab:a<b):∀{xs st:List Int},st.Pairwise (·≤·)→[a,b].Sublist xs→[a,b].Sublist (ppR xs st)
 |[],_,_,h=>by cases h
 |x::xs,[],_,h=>by
  rw[ppR]
  rcases List.sublist_cons_iff.1 h with g|⟨r,e,g⟩
  ·exact ppR_ab ab (by simp) g
  ·cases e;exact ppR_in ab (by simp) (by simp) (g.subset (by simp))
 |x::xs,y::st,hs,h=>by
  rw[ppR]
  split
  ·rename_i hx
   have hs':(x::y::st).Pairwise (·≤·):=List.pairwise_cons.2 ⟨fun z hz=>by
    rcases List.mem_cons.1 hz with e|g
    ·omega
    ·have:=(List.pairwise_cons.1 hs).1 z g;omega,hs⟩
   rcases List.sublist_cons_iff.1 h with g|⟨r,e,g⟩
   ·exact ppR_ab ab hs' g
   ·cases e;exact ppR_in ab hs' (by simp) (g.subset (by simp))
  ·refine List.Sublist.trans ?_ (List.sublist_append_right _ _)
   rcases List.sublist_cons_iff.1 h with g|⟨r,e,g⟩
   ·exact ppR_ab ab (by simp) g
   ·cases e;exact ppR_in ab (by simp) (by simp) (g.subset (by simp))
theorem ppR_fall {a b:Int} (ab:a<b) {Y:List Int}:∀{X st:List Int},[a,b].Sublist (ppR (X++b::a::Y) st)
 |[],[]=>by
  rw[List.nil_append,ppR,ppR,if_pos ab];exact ppR_st
 |[],y::st=>by
  rw[List.nil_append,ppR]
  split
  ·rw[ppR,if_pos ab]
   exact(((List.nil_sublist _).cons_cons b).cons_cons a).trans ppR_st
  ·refine List.Sublist.trans ?_ (List.sublist_append_right _ _)
   rw[ppR,if_pos ab];exact ppR_st
 |x::X,[]=>by rw[List.cons_append,ppR];exact ppR_fall ab (X:=X)
 |x::X,y::st=>by
  rw[List.cons_append,ppR]
  split
  ·exact ppR_fall ab (X:=X)
  ·exact(ppR_fall ab (X:=X)).trans (List.sublist_append_right _ _)
def ppF (p:List Int):List Int:=ppR p []
theorem ppF_ok {p:List Int} (hp:permB p=true):permB (ppF p)=true∧(ppF p).length=p.length∧(upB p=false→mIv (ppF p)<mIv p):=by
 have h:=ppR_perm (xs:=p) (st:=[])
 rw[List.append_nil]at h
 have hq:=perm_of hp h
 refine⟨hq,h.length_eq,fun hu=>mIv_lt hp hq h.length_eq (fun a b ab g=>ppR_ab ab List.Pairwise.nil g) ?_⟩
 obtain⟨X,Y,a,b,ab,e⟩:=not_up hp hu
 refine⟨a,b,ab, ?_, ?_⟩
 ·rw[e];exact(((List.nil_sublist _).cons_cons a).cons_cons b).trans (List.sublist_append_right _ _)
 ·rw[ppF,e];exact ppR_fall ab
def tmN (f:List Int→List Int):Nat→List Int→Int
 |0,_=>0
 |d+1,p=>if upB p=true then 0 else 1+tmN f d (f p)
theorem tmN_b {f:List Int→List Int}:∀{d:Nat} {p:List Int},0≤tmN f d p∧tmN f d p≤d
 |0,_=>by simp[tmN]
 |d+1,p=>by have:=tmN_b (f:=f) (d:=d) (p:=f p);rw[tmN];split<;>omega
theorem tmN_up {f:List Int→List Int} {d:Nat} {p:List Int} (h:upB p=true):tmN f d p=0:=by cases d<;>simp[tmN,h]
end Go.Gl
namespace Go.Gl
open Go Go.Proofs Go.Sort
variable [Amb]
theorem rev_inpl:InPl Tryz.prog 133 List.reverse:=by
 refine⟨⟨_,Tryz.func133,rfl,rfl⟩,fun l=>List.length_reverse,fun w a cap=> ?_,fun w B off cap l cs E lo hi hc hs hf hm hx=> ?_⟩
 ·exact(Tryz.slices_Reverse_int_empty a cap w).mono fun e w' h=>⟨h.1,w.drawn,Nat.le_refl _,by rw[h.2]⟩
 ·have hg:∀j (h:j<l.length),cs[off+j]? =some (.int .i64 l[j]):=fun j h=>hx j _ (List.getElem?_eq_getElem h)
  refine(Tryz.slices_Reverse_int B off cap l w ?_ (Nat.le_trans hm (by decide))).mono fun e w' h=>⟨h.1, ?_⟩
  ·intro j hj
   simp only[List.size_toArray]at hj
   constructor
   ·simp only[World.cell?,hc,Option.isSome_none,Bool.false_eq_true,if_false]
    rw[hg j hj]
    simp[hj]
   ·simp only[World.frozen?,hc]
    rcases hf with hf|hf
    ·simp;omega
    ·simp;omega
  ·obtain⟨n,rfl⟩:=h.2
   refine⟨w.drawn+n,by omega, ?_⟩
   have hlt:B<w.heap.size:=(Array.getElem?_eq_some_iff.1 hc).1
   have hh:(mapBlock (Go.Sort.ahead w n) B (putCells (Value.int .i64) off l.reverse.toArray)).heap=(w.setRow B (cs.toList.take off++(l.reverse).map (Value.int .i64)++cs.toList.drop (off+l.length)).toArray).heap:=by
    apply Array.ext_getElem?
    intro k
    simp only[mapBlock,Go.Sort.ahead,World.setRow,Array.getElem?_modify]
    by_cases e:B=k
    ·subst e
     rw[if_pos rfl,if_pos rfl,hc]
     simp only[Option.map_some,onCells]
     congr 2
     apply Array.ext_getElem?
     intro i
     simp only[putCells,Array.getElem?_mapIdx,List.getElem?_toArray,List.size_toArray,List.length_reverse]
     rw[List.append_assoc,List.getElem?_append]
     have htk:(cs.toList.take off).length=off:=by simp;omega
     rw[htk]
     by_cases h1:i<off
     ·rw[if_pos h1,List.getElem?_take,if_pos h1]
      cases q:cs[i]? with
      |none=>simp[q]
      |some v=>simp only[Option.map_some,Array.getElem?_toList,q];rw[if_neg (by omega)]
     ·rw[if_neg h1,List.getElem?_append,List.length_map,List.length_reverse]
      by_cases h2:i - off<l.length
      ·rw[if_pos h2,List.getElem?_map,Array.getElem?_eq_getElem (by omega)]
       simp only[Option.map_some]
       rw[if_pos ⟨by omega,by omega⟩,List.getElem?_eq_getElem (by simpa using h2)]
       simp[h2]
      ·rw[if_neg h2,List.getElem?_drop,show off+l.length+(i - off - l.length)=i by omega]
       cases q:cs[i]? with
       |none=>simp[q]
       |some v=>simp only[Option.map_some,Array.getElem?_toList,q];rw[if_neg (by omega)]
    ·rw[if_neg e,if_neg e]
   exact congrArg (fun H=>({w with heap:=H,drawn:=w.drawn+n}:World)) hh
end Go.Gl
namespace Go.Gl
open Go Go.Proofs
variable [Amb] [NoQ]
theorem skP_step {x:Int} {xs st:List Int}:skP (x::xs) st=st.takeWhile (fun y=>decide (y<x))++skP xs (x::st.dropWhile (fun y=>decide (y<x))):=rfl
theorem tw_y {x y:Int} {st:List Int} (h:y<x):(y::st).takeWhile (fun y=>decide (y<x))=y::st.takeWhile (fun y=>decide (y<x)):=by rw[List.takeWhile_cons,if_pos (by simpa using h)]
theorem dw_y {x y:Int} {st:List Int} (h:y<x):(y::st).dropWhile (fun y=>decide (y<x))=st.dropWhile (fun y=>decide (y<x)):=by rw[List.dropWhile_cons,if_pos (by simpa using h)]
theorem tw_n {x y:Int} {st:List Int} (h:¬y<x):(y::st).takeWhile (fun y=>decide (y<x))=[]:=by rw[List.takeWhile_cons,if_neg (by simpa using h)]
theorem dw_n {x y:Int} {st:List Int} (h:¬y<x):(y::st).dropWhile (fun y=>decide (y<x))=y::st:=by rw[List.dropWhile_cons,if_neg (by simpa using h)]
theorem stkG {y:Int} {st junk:List Int}:(st++[y]++junk).getD st.length 0=y:=by
 rw[List.getD_eq_getElem?_getD,List.append_assoc,List.getElem?_append_right (Nat.le_refl _),Nat.sub_self];rfl
theorem lst2 (l:List Int):l=[]∨∃r y,l=r++[y]:=by
 rcases List.eq_nil_or_concat l with h|⟨r,y,h⟩
 ·exact .inl h
 ·exact .inr ⟨r,y,by rw[h,List.concat_eq_append]⟩
def sgRv:FuncId→List Bool:=fun f=>if f=12884902021 then[true]else[]
theorem sgRv_eq {f:FuncId}:sgRv f=if f=12884902021 then[true]else[]:=_root_.id rfl
theorem way_sgRv:wayE sgRv=false∧wayN sgRv=false∧wayS sgRv=false∧wayZ sgRv=false∧wayM sgRv=false:=⟨rfl,rfl,rfl,rfl,rfl⟩
attribute [go_sem] sgRv_eq way_sgRv
set_option maxHeartbeats 4000000 in
theorem impl_stackPass_c {m0:Bool} (p:List Int) (hl:p.length≤8):Fun Tryz.prog 93 [(.sl (.lent m0) (List.map (PV.int .i64) (p)))] [(.sl .own (List.map (PV.int .i64) (skF p)))]:=by
 refine fO sgRv [2] Tryz.func93 ?_
 have cM1:= @slices_Reverse_int_int_c;have cD1:=zdh [false,false,false,false,false,false,false,true,true,false,false,false,false,false,false,false] [(0,7),(7,9),(8,9),(7,10),(8,10),(7,11),(8,11),(7,12),(8,12),(7,13),(8,13)]
 have hr:=rev_inpl
 have cM2:= @hr
 refine dEa trivial ?_
 all_goals try (refine zlf ?_;repeat' first|exact zso|refine And.intro ?_ ?_|(refine zim ?_;intro zb hc)|(refine zin ?_;intro zb)|intro j')
 all_goals try refine zbx ?_
 refine v_loopB (fun ms1 S1=>∃(i:Nat) (out:List Int) (st:List Int) (junk:List Int),OwnL (S1.e 3) S1.h S1.n (PV.int .i64) ((out).length) (out)∧OwnL (S1.e 4) S1.h S1.n (PV.int .i64) (st.length) (st++junk)∧S1.e 9=.p (.sl (.lent m0) (List.map (PV.int .i64) (p)))∧S1.e 10=.p (.int .i64 (p.length))∧S1.e 11=.p (.int .i64 (i))∧(i≤p.length)∧(out++skP (p.drop i) st.reverse=skF p)∧(out.length+st.length=i)∧(st.length+junk.length≤i)∧NId (S1.e 4) (S1.e 3)∧ms1=p.length - i) ((fun(i:Nat) (out:List Int) (st:List Int) (junk:List Int)=>p.length - i) (0) ([]) ([]) ([])) ?_ ⟨0,[],[],[],dC trivial ?_⟩
 all_goals try (refine zlf ?_;repeat' first|exact zso|refine And.intro ?_ ?_|(refine zim ?_;intro zb hc)|(refine zin ?_;intro zb)|intro j')
 all_goals try refine zbx ?_
 rintro ms1 S1 ⟨i,out,st,junk,o1_3,o1_4,h1_9,h1_10,h1_11,c1_0,c1_1,c1_2,c1_3,u1_0,hm1⟩
 obtain⟨i1_3,h1_3,b1_3,l1_3⟩:=o1_3.out
 obtain⟨i1_4,h1_4,b1_4,l1_4⟩:=o1_4.out
 have k1_0:=(u1_0).out h1_4 h1_3
 have ni1_3:=znds (x:=i1_3) (n:=S1.n)
 have ni1_4:=znds (x:=i1_4) (n:=S1.n)
 have di1_3i1_4:=zdne (x:=i1_3) (y:=i1_4)
 have fL1:=(And.intro h1_9 (And.intro h1_10 (And.intro h1_11 (And.intro h1_3 (And.intro b1_3 (And.intro h1_4 (And.intro b1_4 (And.intro ni1_3 (And.intro ni1_4 di1_3i1_4)))))))))
 ·by_cases hi:i<p.length
  ·rw[dropI_at hi,skP_step]at c1_1
   have cM2:= @hr
   refine dEa fL1 ?_
   all_goals try (refine zlf ?_;repeat' first|exact zso|refine And.intro ?_ ?_|(refine zim ?_;intro zb hc)|(refine zin ?_;intro zb)|intro j')
   all_goals try refine zbx ?_
   refine v_loopB (fun ms2 S2=>∃(o2:List Int) (s2:List Int) (j2:List Int),OwnL (S2.e 3) S2.h S2.n (PV.int .i64) ((o2).length) (o2)∧OwnL (S2.e 4) S2.h S2.n (PV.int .i64) (s2.length) (s2++j2)∧S2.e 6=.p (.int .i64 ((p.getD i 0)))∧S2.e 9=.p (.sl (.lent m0) (List.map (PV.int .i64) (p)))∧S2.e 10=.p (.int .i64 (p.length))∧S2.e 11=.p (.int .i64 (i))∧(o2++(s2.reverse.takeWhile (fun y=>decide (y<p.getD i 0))++skP (p.drop (i+1)) (p.getD i 0::s2.reverse.dropWhile (fun y=>decide (y<p.getD i 0))))=skF p)∧(o2.length+s2.length=i)∧(s2.length+j2.length≤i)∧NId (S2.e 4) (S2.e 3)∧S1.n≤S2.n∧ms2=s2.length) ((fun(o2:List Int) (s2:List Int) (j2:List Int)=>s2.length) (out) (st) (junk)) ?_ ⟨out,st,junk,dC fL1 ?_⟩
   all_goals try (refine zlf ?_;repeat' first|exact zso|refine And.intro ?_ ?_|(refine zim ?_;intro zb hc)|(refine zin ?_;intro zb)|intro j')
   all_goals try refine zbx ?_
   rintro ms2 S2 ⟨o2,s2,j2,o2_3,o2_4,h2_6,h2_9,h2_10,h2_11,c2_0,c2_1,c2_2,u2_0,u2_1,hm2⟩
   obtain⟨i2_3,h2_3,b2_3,l2_3⟩:=o2_3.out
   obtain⟨i2_4,h2_4,b2_4,l2_4⟩:=o2_4.out
   have k2_0:=(u2_0).out h2_4 h2_3
   have ni2_3:=znds (x:=i2_3) (n:=S2.n)
   have ni2_4:=znds (x:=i2_4) (n:=S2.n)
   have di2_3i2_4:=zdne (x:=i2_3) (y:=i2_4)
   have fL2:=(And.intro h2_6 (And.intro h2_9 (And.intro h2_10 (And.intro h2_11 (And.intro h2_3 (And.intro b2_3 (And.intro h2_4 (And.intro b2_4 (And.intro ni2_3 (And.intro ni2_4 di2_3i2_4))))))))))
   ·have push:(s2.reverse.takeWhile (fun y=>decide (y<p.getD i 0))=[])→s2.reverse.dropWhile (fun y=>decide (y<p.getD i 0))=s2.reverse→o2++skP (p.drop (i+1)) (s2++[p.getD i 0]).reverse=skF p:=fun h1 h2=>by
     rw[h1,h2]at c2_0;rw[List.reverse_append];exact c2_0
    rcases lst2 s2 with rfl|⟨r,y,rfl⟩
    ·have q1:=push rfl rfl
     cases j2 with
     |nil=>
      have cM2:= @hr
      refine dEa fL2 ?_
      all_goals try (refine zlf ?_;repeat' first|exact zso|refine And.intro ?_ ?_|(refine zim ?_;intro zb hc)|(refine zin ?_;intro zb)|intro j')
      all_goals try refine zbx ?_
      focus
       refine q_lp_n ((fun(i:Nat) (out:List Int) (st:List Int) (junk:List Int)=>p.length - i) (i+1) (o2) ([p.getD i 0]) ([])) (dC fL2 ?_) ⟨i+1,o2,[p.getD i 0],[],dC fL2 ?_⟩
       all_goals try (refine zlf ?_;repeat' first|exact zso|refine And.intro ?_ ?_|(refine zim ?_;intro zb hc)|(refine zin ?_;intro zb)|intro j')
       all_goals try refine zbx ?_
      all_goals(first|exact q1|skip)
      all_goals trace_state
     |cons z zs=>
      have cM2:= @hr
      refine dEa fL2 ?_
      all_goals try (refine zlf ?_;repeat' first|exact zso|refine And.intro ?_ ?_|(refine zim ?_;intro zb hc)|(refine zin ?_;intro zb)|intro j')
      all_goals try refine zbx ?_
      focus
       refine q_lp_n ((fun(i:Nat) (out:List Int) (st:List Int) (junk:List Int)=>p.length - i) (i+1) (o2) ([p.getD i 0]) (zs)) (dC fL2 ?_) ⟨i+1,o2,[p.getD i 0],zs,dC fL2 ?_⟩
       all_goals try (refine zlf ?_;repeat' first|exact zso|refine And.intro ?_ ?_|(refine zim ?_;intro zb hc)|(refine zin ?_;intro zb)|intro j')
       all_goals try refine zbx ?_
      all_goals(first|exact q1|(simp only[List.length_nil,List.length_cons]at c2_2;omega)|skip)
      all_goals trace_state
    ·have g2:(((r.length+1:Nat):Int) - 1).toNat=r.length:=by omega
     have g1:(r++y::j2).getD r.length 0=y:=by
      have:=stkG (y:=y) (st:=r) (junk:=j2)
      rwa [List.append_assoc]at this
     have g3:(r++[y]).reverse=y::r.reverse:=by simp
     have g4:(r++[y]).length=r.length+1:=by simp
     rw[g3]at c2_0 push
     by_cases hy:y<p.getD i 0
     ·rw[tw_y hy,dw_y hy]at c2_0
      have cM2:= @hr
      refine dEa (And.intro fL2 (And.intro @g1 (And.intro @g2 (And.intro @g4 @hy)))) ?_
      all_goals try (refine zlf ?_;repeat' first|exact zso|refine And.intro ?_ ?_|(refine zim ?_;intro zb hc)|(refine zin ?_;intro zb)|intro j')
      all_goals try refine zbx ?_
      focus
       refine q_lp_n ((fun(o2:List Int) (s2:List Int) (j2:List Int)=>s2.length) (o2++[y]) (r) (y::j2)) (dC fL2 ?_) ⟨o2++[y],r,y::j2,dC fL2 ?_⟩
       all_goals try (refine zlf ?_;repeat' first|exact zso|refine And.intro ?_ ?_|(refine zim ?_;intro zb hc)|(refine zin ?_;intro zb)|intro j')
       all_goals try refine zbx ?_
      all_goals(first|exact c2_0|(rw[List.append_assoc];exact c2_0)|(rw[g1];done)|(simp only[List.length_append,List.length_nil,List.length_cons]at c2_1 c2_2 ⊢;omega)|skip)
      all_goals trace_state
     ·have q1:=push (tw_n hy) (dw_n hy)
      have hy':(y<p.getD i 0)=False:=eq_false hy
      cases j2 with
      |nil=>
       have g6:(r.length+1=(r++[y]).length)=True:=eq_true (by simp)
       have cM2:= @hr
       refine dEa (And.intro fL2 (And.intro @g1 (And.intro @g2 (And.intro @g4 (And.intro @g6 @hy'))))) ?_
       all_goals try (refine zlf ?_;repeat' first|exact zso|refine And.intro ?_ ?_|(refine zim ?_;intro zb hc)|(refine zin ?_;intro zb)|intro j')
       all_goals try refine zbx ?_
       focus
        refine q_lp_n ((fun(i:Nat) (out:List Int) (st:List Int) (junk:List Int)=>p.length - i) (i+1) (o2) (r++[y]++[p.getD i 0]) ([])) (dC fL2 ?_) ⟨i+1,o2,r++[y]++[p.getD i 0],[],dC fL2 ?_⟩
        all_goals try (refine zlf ?_;repeat' first|exact zso|refine And.intro ?_ ?_|(refine zim ?_;intro zb hc)|(refine zin ?_;intro zb)|intro j')
        all_goals try refine zbx ?_
       all_goals(first|exact q1|(rw[show r++[y,p.getD i 0]=r++[y]++[p.getD i 0]by simp];exact q1)|(simp only[List.length_append,List.length_nil,List.length_cons]at c2_1 c2_2 ⊢;omega)|skip)
       all_goals trace_state
      |cons z zs=>
       have g6:(r.length+1=(r++y::z::zs).length)=False:=eq_false (by simp)
       have g7:(r.length+2≤(r++y::z::zs).length)=True:=eq_true (by simp)
       have g8:List.take (r.length+1) (r++y::z::zs)=r++[y]:=by rw[show r++y::z::zs=(r++[y])++z::zs by simp,List.take_append_of_le_length (by simp),List.take_of_length_le (by simp)]
       have g9:List.drop (r.length+2) (r++y::z::zs)=zs:=by rw[show r++y::z::zs=(r++[y,z])++zs by simp,List.drop_append_of_le_length (by simp),List.drop_of_length_le (by simp)];rfl
       have cM2:= @hr
       refine dEa (And.intro fL2 (And.intro @g1 (And.intro @g2 (And.intro @g4 (And.intro @g6 (And.intro @g7 (And.intro @g8 (And.intro @g9 @hy')))))))) ?_
       all_goals try (refine zlf ?_;repeat' first|exact zso|refine And.intro ?_ ?_|(refine zim ?_;intro zb hc)|(refine zin ?_;intro zb)|intro j')
       all_goals try refine zbx ?_
       focus
        refine q_lp_n ((fun(i:Nat) (out:List Int) (st:List Int) (junk:List Int)=>p.length - i) (i+1) (o2) (r++[y]++[p.getD i 0]) (zs)) (dC fL2 ?_) ⟨i+1,o2,r++[y]++[p.getD i 0],zs,dC fL2 ?_⟩
        all_goals try (refine zlf ?_;repeat' first|exact zso|refine And.intro ?_ ?_|(refine zim ?_;intro zb hc)|(refine zin ?_;intro zb)|intro j')
        all_goals try refine zbx ?_
       all_goals(first|exact q1|(rw[show r++[y,p.getD i 0]=r++[y]++[p.getD i 0]by simp];exact q1)|(simp only[List.length_append,List.length_nil,List.length_cons]at c2_1 c2_2 ⊢;omega)|skip)
       all_goals trace_state
   all_goals trace_state
  ·obtain rfl:i=p.length:=by omega
   have e9:List.drop p.length p=[]:=List.drop_length
   rw[e9]at c1_1
   have eT:List.take st.length (st++junk)=st:=by rw[List.take_append_of_le_length (Nat.le_refl _),List.take_length]
   have eU:List.take st.length (st.reverse++List.drop st.length (st++junk))=st.reverse:=by rw[List.take_append_of_le_length (by simp),List.take_of_length_le (by simp)]
   have eV:st.reverse.length=st.length:=List.length_reverse
   have cM2:= @hr
   refine dEa (And.intro fL1 (And.intro @eT (And.intro @eU @eV))) ?_
   all_goals try (refine zlf ?_;repeat' first|exact zso|refine And.intro ?_ ?_|(refine zim ?_;intro zb hc)|(refine zin ?_;intro zb)|intro j')
   all_goals try refine zbx ?_
   all_goals(first|(rw[List.take_of_length_le (by simp)];exact c1_1)|(simp;done)|skip)
   all_goals trace_state
 all_goals trace_state
set_option maxHeartbeats 4000000 in
theorem spec_l21Pass_c {m0:Bool} (p:List Int) (hl:p.length≤8):Fun Tryz.prog 72 [(.sl (.lent m0) (List.map (PV.int .i64) (p)))] [(.sl .own (List.map (PV.int .i64) (skF p)))]:=by
 refine fO sg0 [2] Tryz.func72 ?_
 have cE1:= @spec_l3Reverse_c
 refine dEa trivial ?_
 all_goals try (refine zlf ?_;repeat' first|exact zso|refine And.intro ?_ ?_|(refine zim ?_;intro zb hc)|(refine zin ?_;intro zb)|intro j')
 all_goals try refine zbx ?_
 refine v_loopB (fun ms1 S1=>∃(i:Nat) (out:List Int) (st:List Int) (junk:List Int),OwnL (S1.e 3) S1.h S1.n (PV.int .i64) ((out).length) (out)∧OwnL (S1.e 4) S1.h S1.n (PV.int .i64) (st.length) (st++junk)∧S1.e 0=.p (.sl (.lent m0) (List.map (PV.int .i64) (p)))∧S1.e 5=.p (.int .i64 (i))∧(i≤p.length)∧(out++skP (p.drop i) st.reverse=skF p)∧(out.length+st.length=i)∧(st.length+junk.length≤i)∧NId (S1.e 4) (S1.e 3)∧ms1=p.length - i) ((fun(i:Nat) (out:List Int) (st:List Int) (junk:List Int)=>p.length - i) (0) ([]) ([]) ([])) ?_ ⟨0,[],[],[],dC trivial ?_⟩
 all_goals try (refine zlf ?_;repeat' first|exact zso|refine And.intro ?_ ?_|(refine zim ?_;intro zb hc)|(refine zin ?_;intro zb)|intro j')
 all_goals try refine zbx ?_
 rintro ms1 S1 ⟨i,out,st,junk,o1_3,o1_4,h1_0,h1_5,c1_0,c1_1,c1_2,c1_3,u1_0,hm1⟩
 obtain⟨i1_3,h1_3,b1_3,l1_3⟩:=o1_3.out
 obtain⟨i1_4,h1_4,b1_4,l1_4⟩:=o1_4.out
 have k1_0:=(u1_0).out h1_4 h1_3
 have ni1_3:=znds (x:=i1_3) (n:=S1.n)
 have ni1_4:=znds (x:=i1_4) (n:=S1.n)
 have di1_3i1_4:=zdne (x:=i1_3) (y:=i1_4)
 have fL1:=(And.intro h1_0 (And.intro h1_5 (And.intro h1_3 (And.intro b1_3 (And.intro h1_4 (And.intro b1_4 (And.intro ni1_3 (And.intro ni1_4 di1_3i1_4))))))))
 ·by_cases hi:i<p.length
  ·rw[dropI_at hi,skP_step]at c1_1
   refine dEa fL1 ?_
   all_goals try (refine zlf ?_;repeat' first|exact zso|refine And.intro ?_ ?_|(refine zim ?_;intro zb hc)|(refine zin ?_;intro zb)|intro j')
   all_goals try refine zbx ?_
   refine v_loopB (fun ms2 S2=>∃(o2:List Int) (s2:List Int) (j2:List Int),OwnL (S2.e 3) S2.h S2.n (PV.int .i64) ((o2).length) (o2)∧OwnL (S2.e 4) S2.h S2.n (PV.int .i64) (s2.length) (s2++j2)∧S2.e 0=.p (.sl (.lent m0) (List.map (PV.int .i64) (p)))∧S2.e 5=.p (.int .i64 (i))∧(o2++(s2.reverse.takeWhile (fun y=>decide (y<p.getD i 0))++skP (p.drop (i+1)) (p.getD i 0::s2.reverse.dropWhile (fun y=>decide (y<p.getD i 0))))=skF p)∧(o2.length+s2.length=i)∧(s2.length+j2.length≤i)∧NId (S2.e 4) (S2.e 3)∧S1.n≤S2.n∧ms2=s2.length) ((fun(o2:List Int) (s2:List Int) (j2:List Int)=>s2.length) (out) (st) (junk)) ?_ ⟨out,st,junk,dC fL1 ?_⟩
   all_goals try (refine zlf ?_;repeat' first|exact zso|refine And.intro ?_ ?_|(refine zim ?_;intro zb hc)|(refine zin ?_;intro zb)|intro j')
   all_goals try refine zbx ?_
   rintro ms2 S2 ⟨o2,s2,j2,o2_3,o2_4,h2_0,h2_5,c2_0,c2_1,c2_2,u2_0,u2_1,hm2⟩
   obtain⟨i2_3,h2_3,b2_3,l2_3⟩:=o2_3.out
   obtain⟨i2_4,h2_4,b2_4,l2_4⟩:=o2_4.out
   have k2_0:=(u2_0).out h2_4 h2_3
   have ni2_3:=znds (x:=i2_3) (n:=S2.n)
   have ni2_4:=znds (x:=i2_4) (n:=S2.n)
   have di2_3i2_4:=zdne (x:=i2_3) (y:=i2_4)
   have fL2:=(And.intro h2_0 (And.intro h2_5 (And.intro h2_3 (And.intro b2_3 (And.intro h2_4 (And.intro b2_4 (And.intro ni2_3 (And.intro ni2_4 di2_3i2_4))))))))
   ·have push:(s2.reverse.takeWhile (fun y=>decide (y<p.getD i 0))=[])→s2.reverse.dropWhile (fun y=>decide (y<p.getD i 0))=s2.reverse→o2++skP (p.drop (i+1)) (s2++[p.getD i 0]).reverse=skF p:=fun h1 h2=>by
     rw[h1,h2]at c2_0;rw[List.reverse_append];exact c2_0
    rcases lst2 s2 with rfl|⟨r,y,rfl⟩
    ·have q1:=push rfl rfl
     cases j2 with
     |nil=>
      refine dEa fL2 ?_
      all_goals try (refine zlf ?_;repeat' first|exact zso|refine And.intro ?_ ?_|(refine zim ?_;intro zb hc)|(refine zin ?_;intro zb)|intro j')
      all_goals try refine zbx ?_
      focus
       refine q_lp_n ((fun(i:Nat) (out:List Int) (st:List Int) (junk:List Int)=>p.length - i) (i+1) (o2) ([p.getD i 0]) ([])) (dC fL2 ?_) ⟨i+1,o2,[p.getD i 0],[],dC fL2 ?_⟩
       all_goals try (refine zlf ?_;repeat' first|exact zso|refine And.intro ?_ ?_|(refine zim ?_;intro zb hc)|(refine zin ?_;intro zb)|intro j')
       all_goals try refine zbx ?_
      all_goals(first|exact q1|skip)
      all_goals trace_state
     |cons z zs=>
      refine dEa fL2 ?_
      all_goals try (refine zlf ?_;repeat' first|exact zso|refine And.intro ?_ ?_|(refine zim ?_;intro zb hc)|(refine zin ?_;intro zb)|intro j')
      all_goals try refine zbx ?_
      focus
       refine q_lp_n ((fun(i:Nat) (out:List Int) (st:List Int) (junk:List Int)=>p.length - i) (i+1) (o2) ([p.getD i 0]) (zs)) (dC fL2 ?_) ⟨i+1,o2,[p.getD i 0],zs,dC fL2 ?_⟩
       all_goals try (refine zlf ?_;repeat' first|exact zso|refine And.intro ?_ ?_|(refine zim ?_;intro zb hc)|(refine zin ?_;intro zb)|intro j')
       all_goals try refine zbx ?_
      all_goals(first|exact q1|(simp only[List.length_nil,List.length_cons]at c2_2;omega)|skip)
      all_goals trace_state
    ·have g2:(((r.length+1:Nat):Int) - 1).toNat=r.length:=by omega
     have g1:(r++y::j2).getD r.length 0=y:=by
      have:=stkG (y:=y) (st:=r) (junk:=j2)
      rwa [List.append_assoc]at this
     have g3:(r++[y]).reverse=y::r.reverse:=by simp
     have g4:(r++[y]).length=r.length+1:=by simp
     rw[g3]at c2_0 push
     by_cases hy:y<p.getD i 0
     ·rw[tw_y hy,dw_y hy]at c2_0
      refine dEa (And.intro fL2 (And.intro @g1 (And.intro @g2 (And.intro @g4 @hy)))) ?_
      all_goals try (refine zlf ?_;repeat' first|exact zso|refine And.intro ?_ ?_|(refine zim ?_;intro zb hc)|(refine zin ?_;intro zb)|intro j')
      all_goals try refine zbx ?_
      focus
       refine q_lp_n ((fun(o2:List Int) (s2:List Int) (j2:List Int)=>s2.length) (o2++[y]) (r) (y::j2)) (dC fL2 ?_) ⟨o2++[y],r,y::j2,dC fL2 ?_⟩
       all_goals try (refine zlf ?_;repeat' first|exact zso|refine And.intro ?_ ?_|(refine zim ?_;intro zb hc)|(refine zin ?_;intro zb)|intro j')
       all_goals try refine zbx ?_
      all_goals(first|exact c2_0|(rw[List.append_assoc];exact c2_0)|(rw[g1];done)|(simp only[List.length_append,List.length_nil,List.length_cons]at c2_1 c2_2 ⊢;omega)|skip)
      all_goals trace_state
     ·have q1:=push (tw_n hy) (dw_n hy)
      have hy':(y<p.getD i 0)=False:=eq_false hy
      cases j2 with
      |nil=>
       have g6:(r.length+1=(r++[y]).length)=True:=eq_true (by simp)
       refine dEa (And.intro fL2 (And.intro @g1 (And.intro @g2 (And.intro @g4 (And.intro @g6 @hy'))))) ?_
       all_goals try (refine zlf ?_;repeat' first|exact zso|refine And.intro ?_ ?_|(refine zim ?_;intro zb hc)|(refine zin ?_;intro zb)|intro j')
       all_goals try refine zbx ?_
       focus
        refine q_lp_n ((fun(i:Nat) (out:List Int) (st:List Int) (junk:List Int)=>p.length - i) (i+1) (o2) (r++[y]++[p.getD i 0]) ([])) (dC fL2 ?_) ⟨i+1,o2,r++[y]++[p.getD i 0],[],dC fL2 ?_⟩
        all_goals try (refine zlf ?_;repeat' first|exact zso|refine And.intro ?_ ?_|(refine zim ?_;intro zb hc)|(refine zin ?_;intro zb)|intro j')
        all_goals try refine zbx ?_
       all_goals(first|exact q1|(rw[show r++[y,p.getD i 0]=r++[y]++[p.getD i 0]by simp];exact q1)|(simp only[List.length_append,List.length_nil,List.length_cons]at c2_1 c2_2 ⊢;omega)|skip)
       all_goals trace_state
      |cons z zs=>
       have g6:(r.length+1=(r++y::z::zs).length)=False:=eq_false (by simp)
       have g7:(r.length+2≤(r++y::z::zs).length)=True:=eq_true (by simp)
       have g8:List.take (r.length+1) (r++y::z::zs)=r++[y]:=by rw[show r++y::z::zs=(r++[y])++z::zs by simp,List.take_append_of_le_length (by simp),List.take_of_length_le (by simp)]
       have g9:List.drop (r.length+2) (r++y::z::zs)=zs:=by rw[show r++y::z::zs=(r++[y,z])++zs by simp,List.drop_append_of_le_length (by simp),List.drop_of_length_le (by simp)];rfl
       refine dEa (And.intro fL2 (And.intro @g1 (And.intro @g2 (And.intro @g4 (And.intro @g6 (And.intro @g7 (And.intro @g8 (And.intro @g9 @hy')))))))) ?_
       all_goals try (refine zlf ?_;repeat' first|exact zso|refine And.intro ?_ ?_|(refine zim ?_;intro zb hc)|(refine zin ?_;intro zb)|intro j')
       all_goals try refine zbx ?_
       focus
        refine q_lp_n ((fun(i:Nat) (out:List Int) (st:List Int) (junk:List Int)=>p.length - i) (i+1) (o2) (r++[y]++[p.getD i 0]) (zs)) (dC fL2 ?_) ⟨i+1,o2,r++[y]++[p.getD i 0],zs,dC fL2 ?_⟩
        all_goals try (refine zlf ?_;repeat' first|exact zso|refine And.intro ?_ ?_|(refine zim ?_;intro zb hc)|(refine zin ?_;intro zb)|intro j')
        all_goals try refine zbx ?_
       all_goals(first|exact q1|(rw[show r++[y,p.getD i 0]=r++[y]++[p.getD i 0]by simp];exact q1)|(simp only[List.length_append,List.length_nil,List.length_cons]at c2_1 c2_2 ⊢;omega)|skip)
       all_goals trace_state
   all_goals trace_state
  ·obtain rfl:i=p.length:=by omega
   have e9:List.drop p.length p=[]:=List.drop_length
   rw[e9]at c1_1
   have eT:List.take st.length (st++junk)=st:=by rw[List.take_append_of_le_length (Nat.le_refl _),List.take_length]
   have eU:List.take st.length (st.reverse++List.drop st.length (st++junk))=st.reverse:=by rw[List.take_append_of_le_length (by simp),List.take_of_length_le (by simp)]
   have eV:st.reverse.length=st.length:=List.length_reverse
   refine dEa (And.intro fL1 (And.intro @eT (And.intro @eU @eV))) ?_
   all_goals try (refine zlf ?_;repeat' first|exact zso|refine And.intro ?_ ?_|(refine zim ?_;intro zb hc)|(refine zin ?_;intro zb)|intro j')
   all_goals try refine zbx ?_
   all_goals(first|(rw[List.take_of_length_le (l:=st.reverse) (by simp),List.take_of_length_le (by simp)];exact c1_1)|(simp;done)|skip)
   all_goals trace_state
 all_goals trace_state
def tmR (f:List Int→List Int) (p:List Int):Int:=if isPermB p=true then tmN f 64 p else -1
theorem tmR_b {f:List Int→List Int} {p:List Int}: -1≤tmR f p∧tmR f p≤64:=by
 unfold tmR;split
 ·have:=tmN_b (f:=f) (d:=64) (p:=p);omega
 ·omega
set_option maxHeartbeats 4000000 in
theorem impl_timesOf_c {m0:Bool} (p:List Int) (g:FuncId) (f:List Int→List Int) (hp:isPermB p=true) (hf:∀q,permB q=true→q.length=p.length→permB (f q)=true∧(f q).length=q.length∧(upB q=false→mIv (f q)<mIv q)) (hg:∀(m:Bool) (q:List Int),q.length≤8→permB q=true→Fun Tryz.prog g [.sl (.lent m) (List.map (PV.int .i64) q)] [.sl .own (List.map (PV.int .i64) (f q))]):Fun Tryz.prog 92 [(.sl (.lent m0) (List.map (PV.int .i64) (p))),(.fn g [] [])] [(.int .i64 (tmN f 64 p))]:=by
 refine fO sg0 [4] Tryz.func92 ?_
 have cE1:= @impl_isRising_c
 obtain⟨h8,hq⟩:=isPerm_facts hp
 have h64:mIv p≤64:=Nat.le_trans mIv_le (Nat.mul_le_mul h8 h8)
 refine dEa trivial ?_
 all_goals try (refine zlf ?_;repeat' first|exact zso|refine And.intro ?_ ?_|(refine zim ?_;intro zb hc)|(refine zin ?_;intro zb)|intro j')
 all_goals try refine zbx ?_
 refine v_loopB (fun ms1 S1=>∃(b:Bool) (id:Nat) (q:List Int) (k:Nat) (d:Nat),S1.e 0=(bif b then AV.p (.sl (.lent m0) (List.map (PV.int .i64) q))else AV.ref id 0 q.length)∧S1.e 1=.p (.fn g [] [])∧S1.e 5=.p (.int .i64 (k))∧(permB q=true)∧(q.length=p.length)∧((k:Int)+tmN f d q=tmN f 64 p)∧(mIv q≤d)∧(k+d=64)∧(b=true∨(id<S1.n∧S1.h id=.live false (List.map (PV.int .i64) q)))∧ms1=d) ((fun(b:Bool) (id:Nat) (q:List Int) (k:Nat) (d:Nat)=>d) (true) (0) (p) (0) (64)) ?_ ⟨true,0,p,0,64,dC trivial ?_⟩
 all_goals try (refine zlf ?_;repeat' first|exact zso|refine And.intro ?_ ?_|(refine zim ?_;intro zb hc)|(refine zin ?_;intro zb)|intro j')
 all_goals try refine zbx ?_
 rintro ms1 S1 ⟨b,id,q,k,d,h1_0,h1_1,h1_5,c1_0,c1_1,c1_2,c1_3,c1_4,c1_5,hm1⟩
 have fL1:=(And.intro h1_0 (And.intro h1_1 h1_5))
 ·have hpq:isPermB q=true:=by simp only[isPermB,c1_0,Bool.and_true,decide_eq_true_eq];omega
  obtain⟨f1,f2,f3⟩:=hf q c1_0 c1_1
  have cg:=fun m:Bool=>hg m q (by omega) c1_0
  cases hu:upB q with
  |true=>
   rw[tmN_up hu]at c1_2
   cases b with
   |true=>
    simp only[cond_true]at h1_0
    have cE1:= @cg;have cE2:= @impl_isRising_c
    refine dEa (And.intro fL1 (And.intro @h1_0 (And.intro @hpq @hu))) ?_
    all_goals try (refine zlf ?_;repeat' first|exact zso|refine And.intro ?_ ?_|(refine zim ?_;intro zb hc)|(refine zin ?_;intro zb)|intro j')
    all_goals try refine zbx ?_
    all_goals trace_state
   |false=>
    simp only[cond_false]at h1_0
    rcases c1_5 with e|⟨e1,e2⟩
    ·cases e
    ·have n4:=znds e1
     have cE1:= @cg;have cE2:= @impl_isRising_c
     refine dEa (And.intro fL1 (And.intro @h1_0 (And.intro @e2 (And.intro @n4 (And.intro @hpq @hu))))) ?_
     all_goals try (refine zlf ?_;repeat' first|exact zso|refine And.intro ?_ ?_|(refine zim ?_;intro zb hc)|(refine zin ?_;intro zb)|intro j')
     all_goals try refine zbx ?_
     all_goals trace_state
  |false=>
   have f4:=f3 hu
   obtain⟨d,rfl⟩:∃e,d=e+1:=⟨d - 1,by omega⟩
   rw[tmN,hu,if_neg (by decide)]at c1_2
   cases b with
   |true=>
    simp only[cond_true]at h1_0
    have cE1:= @cg;have cE2:= @impl_isRising_c
    refine dEa (And.intro fL1 (And.intro @h1_0 (And.intro @hpq @hu))) ?_
    all_goals try (refine zlf ?_;repeat' first|exact zso|refine And.intro ?_ ?_|(refine zim ?_;intro zb hc)|(refine zin ?_;intro zb)|intro j')
    all_goals try refine zbx ?_
    focus
     refine q_lp_n ((fun(b:Bool) (id:Nat) (q:List Int) (k:Nat) (d:Nat)=>d) (false) (S1.n+1280) (f q) (k+1) (d)) (dC fL1 ?_) ⟨false,S1.n+1280,f q,k+1,d,dC fL1 ?_⟩
     all_goals try (refine zlf ?_;repeat' first|exact zso|refine And.intro ?_ ?_|(refine zim ?_;intro zb hc)|(refine zin ?_;intro zb)|intro j')
     all_goals try refine zbx ?_
    all_goals(first|(rw[←c1_2];omega)|skip)
    all_goals trace_state
   |false=>
    simp only[cond_false]at h1_0
    rcases c1_5 with e|⟨e1,e2⟩
    ·cases e
    ·have n4:=znds e1
     have cE1:= @cg;have cE2:= @impl_isRising_c
     refine dEa (And.intro fL1 (And.intro @h1_0 (And.intro @e2 (And.intro @n4 (And.intro @hpq @hu))))) ?_
     all_goals try (refine zlf ?_;repeat' first|exact zso|refine And.intro ?_ ?_|(refine zim ?_;intro zb hc)|(refine zin ?_;intro zb)|intro j')
     all_goals try refine zbx ?_
     focus
      refine q_lp_n ((fun(b:Bool) (id:Nat) (q:List Int) (k:Nat) (d:Nat)=>d) (false) (S1.n+1280) (f q) (k+1) (d)) (dC fL1 ?_) ⟨false,S1.n+1280,f q,k+1,d,dC fL1 ?_⟩
      all_goals try (refine zlf ?_;repeat' first|exact zso|refine And.intro ?_ ?_|(refine zim ?_;intro zb hc)|(refine zin ?_;intro zb)|intro j')
      all_goals try refine zbx ?_
     all_goals(first|(rw[←c1_2];omega)|skip)
     all_goals trace_state
 all_goals trace_state
theorem impl_StackTimes_c {m0:Bool} (p:List Int) (hl:p.length≤1048576):Fun Tryz.prog 47 [(.sl (.lent m0) (List.map (PV.int .i64) (p)))] [(.int .i64 (tmR skF p))]:=by
 by_cases h:isPermB p=true
 ·have c1:=fun m0:Bool=>impl_timesOf_c (m0:=m0) p 93 skF h (fun q hq _=>skF_ok hq) (fun m q hl _=>impl_stackPass_c (m0:=m) q hl)
  rw[tmR,if_pos h]
  refine fO sg0 [2] Tryz.func47 ?_
  have cE1:= @impl_IsPerm_c;have cE2:= @impl_timesOf_c;have cE3:= @impl_stackPass_c
  have cE1:= @c1;have cE2:= @impl_IsPerm_c
  refine dEa @h ?_
  all_goals try (refine zlf ?_;repeat' first|exact zso|refine And.intro ?_ ?_|(refine zim ?_;intro zb hc)|(refine zin ?_;intro zb)|intro j')
  all_goals try refine zbx ?_
  all_goals trace_state
 ·rw[tmR,if_neg h]
  rw[Bool.not_eq_true]at h
  refine fO sg0 [2] Tryz.func47 ?_
  have cE1:= @impl_IsPerm_c;have cE2:= @impl_timesOf_c;have cE3:= @impl_stackPass_c
  refine dEa @h ?_
  all_goals try (refine zlf ?_;repeat' first|exact zso|refine And.intro ?_ ?_|(refine zim ?_;intro zb hc)|(refine zin ?_;intro zb)|intro j')
  all_goals try refine zbx ?_
  all_goals trace_state
set_option maxHeartbeats 4000000 in
theorem spec_StackTimes_c {m0:Bool} (p:List Int) (hl:p.length≤1048576):Fun Tryz.prog 33 [(.sl (.lent m0) (List.map (PV.int .i64) (p)))] [(.int .i64 (tmR skF p))]:=by
 by_cases h:isPermB p=true
 ·obtain⟨h8,hq⟩:=isPerm_facts h
  have h64:mIv p≤64:=Nat.le_trans mIv_le (Nat.mul_le_mul h8 h8)
  rw[tmR,if_pos h]
  refine fO sg0 [2] Tryz.func33 ?_
  have cE1:= @spec_IsPerm_c;have cE2:= @spec_l13Straight_c;have cE3:= @spec_l21Pass_c
  refine dEa @h ?_
  all_goals try (refine zlf ?_;repeat' first|exact zso|refine And.intro ?_ ?_|(refine zim ?_;intro zb hc)|(refine zin ?_;intro zb)|intro j')
  all_goals try refine zbx ?_
  refine v_loopB (fun ms1 S1=>∃(b:Bool) (id:Nat) (q:List Int) (k:Nat) (d:Nat),S1.e 0=(bif b then AV.p (.sl (.lent m0) (List.map (PV.int .i64) q))else AV.ref id 0 q.length)∧S1.e 3=.p (.int .i64 (k))∧(permB q=true)∧(q.length=p.length)∧((k:Int)+tmN skF d q=tmN skF 64 p)∧(mIv q≤d)∧(k+d=64)∧(b=true∨(id<S1.n∧S1.h id=.live false (List.map (PV.int .i64) q)))∧ms1=d) ((fun(b:Bool) (id:Nat) (q:List Int) (k:Nat) (d:Nat)=>d) (true) (0) (p) (0) (64)) ?_ ⟨true,0,p,0,64,dC trivial ?_⟩
  all_goals try (refine zlf ?_;repeat' first|exact zso|refine And.intro ?_ ?_|(refine zim ?_;intro zb hc)|(refine zin ?_;intro zb)|intro j')
  all_goals try refine zbx ?_
  rintro ms1 S1 ⟨b,id,q,k,d,h1_0,h1_3,c1_0,c1_1,c1_2,c1_3,c1_4,c1_5,hm1⟩
  have fL1:=(And.intro h1_0 h1_3)
  ·have q8:q.length≤8:=by omega
   obtain⟨f1,f2,f3⟩:=skF_ok c1_0
   cases hu:upB q with
   |true=>
    rw[tmN_up hu]at c1_2
    cases b with
    |true=>
     simp only[cond_true]at h1_0
     refine dEa (And.intro fL1 (And.intro @h1_0 @hu)) ?_
     all_goals try (refine zlf ?_;repeat' first|exact zso|refine And.intro ?_ ?_|(refine zim ?_;intro zb hc)|(refine zin ?_;intro zb)|intro j')
     all_goals try refine zbx ?_
     all_goals trace_state
    |false=>
     simp only[cond_false]at h1_0
     rcases c1_5 with e|⟨e1,e2⟩
     ·cases e
     ·have n4:=znds e1
      refine dEa (And.intro fL1 (And.intro @h1_0 (And.intro @e2 (And.intro @n4 @hu)))) ?_
      all_goals try (refine zlf ?_;repeat' first|exact zso|refine And.intro ?_ ?_|(refine zim ?_;intro zb hc)|(refine zin ?_;intro zb)|intro j')
      all_goals try refine zbx ?_
      all_goals trace_state
   |false=>
    have f4:=f3 hu
    obtain⟨d,rfl⟩:∃e,d=e+1:=⟨d - 1,by omega⟩
    rw[tmN,hu,if_neg (by decide)]at c1_2
    cases b with
    |true=>
     simp only[cond_true]at h1_0
     refine dEa (And.intro fL1 (And.intro @h1_0 @hu)) ?_
     all_goals try (refine zlf ?_;repeat' first|exact zso|refine And.intro ?_ ?_|(refine zim ?_;intro zb hc)|(refine zin ?_;intro zb)|intro j')
     all_goals try refine zbx ?_
     focus
      refine q_lp_n ((fun(b:Bool) (id:Nat) (q:List Int) (k:Nat) (d:Nat)=>d) (false) (S1.n+1024) (skF q) (k+1) (d)) (dC fL1 ?_) ⟨false,S1.n+1024,skF q,k+1,d,dC fL1 ?_⟩
      all_goals try (refine zlf ?_;repeat' first|exact zso|refine And.intro ?_ ?_|(refine zim ?_;intro zb hc)|(refine zin ?_;intro zb)|intro j')
      all_goals try refine zbx ?_
     all_goals(first|(rw[←c1_2];omega)|skip)
     all_goals trace_state
    |false=>
     simp only[cond_false]at h1_0
     rcases c1_5 with e|⟨e1,e2⟩
     ·cases e
     ·have n4:=znds e1
      refine dEa (And.intro fL1 (And.intro @h1_0 (And.intro @e2 (And.intro @n4 @hu)))) ?_
      all_goals try (refine zlf ?_;repeat' first|exact zso|refine And.intro ?_ ?_|(refine zim ?_;intro zb hc)|(refine zin ?_;intro zb)|intro j')
      all_goals try refine zbx ?_
      focus
       refine q_lp_n ((fun(b:Bool) (id:Nat) (q:List Int) (k:Nat) (d:Nat)=>d) (false) (S1.n+1024) (skF q) (k+1) (d)) (dC fL1 ?_) ⟨false,S1.n+1024,skF q,k+1,d,dC fL1 ?_⟩
       all_goals try (refine zlf ?_;repeat' first|exact zso|refine And.intro ?_ ?_|(refine zim ?_;intro zb hc)|(refine zin ?_;intro zb)|intro j')
       all_goals try refine zbx ?_
      all_goals(first|(rw[←c1_2];omega)|skip)
      all_goals trace_state
  all_goals trace_state
 ·rw[tmR,if_neg h]
  rw[Bool.not_eq_true]at h
  refine fO sg0 [2] Tryz.func33 ?_
  have cE1:= @spec_IsPerm_c;have cE2:= @spec_l13Straight_c;have cE3:= @spec_l21Pass_c
  refine dEa @h ?_
  all_goals try (refine zlf ?_;repeat' first|exact zso|refine And.intro ?_ ?_|(refine zim ?_;intro zb hc)|(refine zin ?_;intro zb)|intro j')
  all_goals try refine zbx ?_
  all_goals trace_state
theorem gdD2 {p:List Int} {a b:Nat}:(p.drop a).getD b 0=p.getD (a+b) 0:=by
 rw[List.getD_eq_getElem?_getD,List.getElem?_drop,←List.getD_eq_getElem?_getD]
theorem tk_next {p:List Int} {i j:Nat} (h:i≤j) (hj:j<p.length):(p.drop i).take (j+1 - i)=(p.drop i).take (j - i)++[p.getD j 0]:=by
 rw[show j+1 - i=(j - i)+1 by omega,take_getD (d:=0) (by rw[List.length_drop];omega),gdD2,show i+(j - i)=j by omega]
theorem run_to {p:List Int} {i:Nat}:∀{d j:Nat},j=i+d→j<p.length→(∀t,i≤t→t<j→p.getD (t+1) 0<p.getD t 0)→ppR (p.drop i) []=ppR (p.drop (j+1)) ((p.drop i).take (j+1 - i)).reverse
 |0,j,e,hj,_=>by
  obtain rfl:j=i:=by omega
  rw[tk_next (Nat.le_refl _) hj,Nat.sub_self,List.take_zero,List.nil_append,List.reverse_singleton,dropI_at hj,ppR]
 |d+1,j,e,hj,hd=>by
  obtain⟨k,rfl⟩:∃k,j=k+1:=⟨j - 1,by omega⟩
  rw[run_to (d:=d) (j:=k) (by omega) (by omega) (fun t h1 h2=>hd t h1 (by omega)),tk_next (j:=k) (by omega) (by omega),List.reverse_append,List.reverse_singleton,List.singleton_append,dropI_at hj,ppR,if_pos (hd k (by omega) (by omega)),tk_next (j:=k+1) (by omega) hj,List.reverse_append,List.reverse_singleton,List.singleton_append]
  rw[show k+1 - i=(k - i)+1 by omega]at*
  congr 2
  rw[←show k+1 - i=(k - i)+1 by omega,tk_next (j:=k) (by omega) (by omega),List.reverse_append,List.reverse_singleton,List.singleton_append]
theorem run_end {p:List Int} {i j:Nat} (h:i≤j) (hj:j<p.length) (he:j+1=p.length∨¬p.getD (j+1) 0<p.getD j 0) (hd:∀t,i≤t→t<j→p.getD (t+1) 0<p.getD t 0):
  ppR (p.drop i) []=((p.drop i).take (j+1 - i)).reverse++ppR (p.drop (j+1)) []:=by
 rw[run_to (d:=j - i) (by omega) hj hd,tk_next h hj,List.reverse_append,List.reverse_singleton,List.singleton_append]
 by_cases e:j+1=p.length
 ·rw[List.drop_of_length_le (by omega)];simp[ppR]
 ·have h2:¬p.getD (j+1) 0<p.getD j 0:=by
   rcases he with g|g
   ·exact absurd g e
   ·exact g
  rw[dropI_at (k:=j+1) (by omega)]
  simp only[ppR,if_neg h2]
set_option maxHeartbeats 4000000 in
theorem spec_l22Pass_c {m0:Bool} (p:List Int) (hl:p.length≤8):Fun Tryz.prog 73 [(.sl (.lent m0) (List.map (PV.int .i64) (p)))] [(.sl .own (List.map (PV.int .i64) (ppF p)))]:=by
 refine fO sg0 [2] Tryz.func73 ?_
 have cE1:= @spec_l3Reverse_c
 refine dEa trivial ?_
 all_goals try (refine zlf ?_;repeat' first|exact zso|refine And.intro ?_ ?_|(refine zim ?_;intro zb hc)|(refine zin ?_;intro zb)|intro j')
 all_goals try refine zbx ?_
 refine v_loopB (fun ms1 S1=>∃(i:Nat) (o:List Int),S1.e 0=.p (.sl (.lent m0) (List.map (PV.int .i64) (p)))∧OwnL (S1.e 3) S1.h S1.n (PV.int .i64) ((o).length) (o)∧S1.e 4=.p (.int .i64 (i))∧(i≤p.length)∧(o++ppR (p.drop i) []=ppF p)∧(o.length=i)∧ms1=p.length - i) ((fun(i:Nat) (o:List Int)=>p.length - i) (0) ([])) ?_ ⟨0,[],dC trivial ?_⟩
 all_goals try (refine zlf ?_;repeat' first|exact zso|refine And.intro ?_ ?_|(refine zim ?_;intro zb hc)|(refine zin ?_;intro zb)|intro j')
 all_goals try refine zbx ?_
 rintro ms1 S1 ⟨i,o,h1_0,o1_3,h1_4,c1_0,c1_1,c1_2,hm1⟩
 obtain⟨i1_3,h1_3,b1_3,l1_3⟩:=o1_3.out
 have ni1_3:=znds (x:=i1_3) (n:=S1.n)
 have fL1:=(And.intro h1_0 (And.intro h1_4 (And.intro h1_3 (And.intro b1_3 ni1_3))))
 ·by_cases hi:i<p.length
  ·refine dEa fL1 ?_
   all_goals try (refine zlf ?_;repeat' first|exact zso|refine And.intro ?_ ?_|(refine zim ?_;intro zb hc)|(refine zin ?_;intro zb)|intro j')
   all_goals try refine zbx ?_
   refine v_loopB (fun ms2 S2=>∃(j:Nat),S2.e 0=.p (.sl (.lent m0) (List.map (PV.int .i64) (p)))∧OwnL (S2.e 3) S2.h S2.n (PV.int .i64) ((o).length) (o)∧S2.e 4=.p (.int .i64 (i))∧S2.e 5=.p (.int .i64 (j))∧(i≤j∧j<p.length)∧(∀t,i≤t→t<j→p.getD (t+1) 0<p.getD t 0)∧S1.n≤S2.n∧ms2=p.length - j) ((fun(j:Nat)=>p.length - j) (i)) ?_ ⟨i,dC fL1 ?_⟩
   all_goals try (refine zlf ?_;repeat' first|exact zso|refine And.intro ?_ ?_|(refine zim ?_;intro zb hc)|(refine zin ?_;intro zb)|intro j')
   all_goals try refine zbx ?_
   rintro ms2 S2 ⟨j,h2_0,o2_3,h2_4,h2_5,c2_0,c2_1,u2_0,hm2⟩
   obtain⟨i2_3,h2_3,b2_3,l2_3⟩:=o2_3.out
   have ni2_3:=znds (x:=i2_3) (n:=S2.n)
   have fL2:=(And.intro h2_0 (And.intro h2_4 (And.intro h2_5 (And.intro h2_3 (And.intro b2_3 ni2_3)))))
   ·have fin:(j+1=p.length∨¬p.getD (j+1) 0<p.getD j 0)→(o++((p.drop i).take (j+1 - i)).reverse)++ppR (p.drop (j+1)) []=ppF p:=fun he=>by
     rw[List.append_assoc,←run_end c2_0.1 c2_0.2 he c2_1];exact c1_1
    have el:((p.drop i).take (j+1 - i)).reverse.length=j+1 - i:=by rw[List.length_reverse,List.length_take,List.length_drop];omega
    have ek:List.drop i (List.take (j+1) p)=(p.drop i).take (j+1 - i):=List.drop_take
    have ej:((j:Int)+1).toNat=j+1:=by omega
    by_cases hj:j+1<p.length
    ·by_cases hd:p.getD (j+1) 0<p.getD j 0
     ·refine dEa (And.intro fL2 (And.intro @hd @ej)) ?_
      all_goals try (refine zlf ?_;repeat' first|exact zso|refine And.intro ?_ ?_|(refine zim ?_;intro zb hc)|(refine zin ?_;intro zb)|intro j')
      all_goals try refine zbx ?_
      focus
       refine q_lp_n ((fun(j:Nat)=>p.length - j) (j+1)) (dC fL2 ?_) ⟨j+1,dC fL2 ?_⟩
       all_goals try (refine zlf ?_;repeat' first|exact zso|refine And.intro ?_ ?_|(refine zim ?_;intro zb hc)|(refine zin ?_;intro zb)|intro j')
       all_goals try refine zbx ?_
      all_goals(first|(intro t h1 h2;rcases Nat.lt_or_ge t j with g|g;exact c2_1 t h1 g;obtain rfl:t=j:=(by omega);exact hd)|skip)
      all_goals trace_state
     ·have q1:=fin (.inr hd)
      have hd':(p.getD (j+1) 0<p.getD j 0)=False:=eq_false hd
      refine dEa (And.intro fL2 (And.intro @hd' (And.intro @ej @ek))) ?_
      all_goals try (refine zlf ?_;repeat' first|exact zso|refine And.intro ?_ ?_|(refine zim ?_;intro zb hc)|(refine zin ?_;intro zb)|intro j')
      all_goals try refine zbx ?_
      focus
       refine q_lp_n ((fun(i:Nat) (o:List Int)=>p.length - i) (j+1) (o++((p.drop i).take (j+1 - i)).reverse)) (dC fL2 ?_) ⟨j+1,o++((p.drop i).take (j+1 - i)).reverse,dC fL2 ?_⟩
       all_goals try (refine zlf ?_;repeat' first|exact zso|refine And.intro ?_ ?_|(refine zim ?_;intro zb hc)|(refine zin ?_;intro zb)|intro j')
       all_goals try refine zbx ?_
      all_goals(first|exact q1|(rw[←List.append_assoc];exact q1)|(rw[List.length_append,el];omega)|skip)
      all_goals trace_state
    ·have q1:=fin (.inl (by omega))
     refine dEa (And.intro fL2 (And.intro @ej @ek)) ?_
     all_goals try (refine zlf ?_;repeat' first|exact zso|refine And.intro ?_ ?_|(refine zim ?_;intro zb hc)|(refine zin ?_;intro zb)|intro j')
     all_goals try refine zbx ?_
     focus
      refine q_lp_n ((fun(i:Nat) (o:List Int)=>p.length - i) (j+1) (o++((p.drop i).take (j+1 - i)).reverse)) (dC fL2 ?_) ⟨j+1,o++((p.drop i).take (j+1 - i)).reverse,dC fL2 ?_⟩
      all_goals try (refine zlf ?_;repeat' first|exact zso|refine And.intro ?_ ?_|(refine zim ?_;intro zb hc)|(refine zin ?_;intro zb)|intro j')
      all_goals try refine zbx ?_
     all_goals(first|exact q1|(rw[←List.append_assoc];exact q1)|(rw[List.length_append,el];omega)|skip)
     all_goals trace_state
   all_goals trace_state
  ·obtain rfl:i=p.length:=by omega
   rw[List.drop_length]at c1_1
   have q1:o=ppF p:=by rw[←c1_1];simp[ppR]
   refine dEa fL1 ?_
   all_goals try (refine zlf ?_;repeat' first|exact zso|refine And.intro ?_ ?_|(refine zim ?_;intro zb hc)|(refine zin ?_;intro zb)|intro j')
   all_goals try refine zbx ?_
   all_goals(first|exact q1|(rw[q1];done)|skip)
   all_goals trace_state
 all_goals trace_state
def flS (p:List Int):Nat→List (List Int)×Nat
 |0=>([],0)
 |i+1=>if i+1=p.length∨p.getD i 0<p.getD (i+1) 0 then((flS p i).1++[[((flS p i).2:Int)+1,(i:Int)+1]],i+1)else flS p i
def popG (q r:List Int):List Int:=q.take (r.getD 0 0 - 1).toNat++((q.drop (r.getD 0 0 - 1).toNat).take ((r.getD 1 0).toNat - (r.getD 0 0 - 1).toNat)).reverse++q.drop (r.getD 1 0).toNat
def popF (L:List (List Int)) (q:List Int):List Int:=L.foldl popG q
theorem popG_len {q r:List Int} (h0:1≤r.getD 0 0) (h1:r.getD 0 0≤r.getD 1 0) (h2:r.getD 1 0≤q.length):(popG q r).length=q.length:=by
 unfold popG
 simp only[List.length_append,List.length_reverse,List.length_take,List.length_drop];omega
theorem popF_len {n:Nat}:∀{L:List (List Int)} {q:List Int},q.length=n→(∀r∈L,1≤r.getD 0 0∧r.getD 0 0≤r.getD 1 0∧r.getD 1 0≤n)→(popF L q).length=n
 |[],_,h,_=>h
 |r::L,q,h,hr=>by
  have:=hr r List.mem_cons_self
  rw[popF,List.foldl_cons]
  exact popF_len (L:=L) (by rw[popG_len this.1 this.2.1 (by omega)];exact h) fun r hr'=>hr r (List.mem_cons_of_mem _ hr')
theorem flS_f {p:List Int} (hn:p.Nodup):∀{i:Nat},i≤p.length→(flS p i).2≤i∧(flS p i).1.length≤i∧(∀r∈(flS p i).1,r.length=2∧1≤r.getD 0 0∧r.getD 0 0≤r.getD 1 0∧r.getD 1 0≤p.length)∧
  (∀t,(flS p i).2≤t→t<i→p.getD (t+1) 0<p.getD t 0)∧(i=p.length→(flS p i).2=i)∧
  ∃O:List Int,O.length=(flS p i).2∧popF (flS p i).1 p=O++p.drop (flS p i).2∧O++ppR (p.drop (flS p i).2) []=ppF p
 |0,_=>⟨Nat.le_refl _,Nat.le_refl _,fun r h=>(by cases h),fun t _ h=>absurd h (by omega),fun h=>rfl,[],rfl,by simp[flS,popF],by simp[flS,ppF]⟩
 |i+1,hi=>by
  obtain⟨h1,h2,h3,h4,_,O,o1,o2,o3⟩:=flS_f hn (i:=i) (by omega)
  rw[flS]
  by_cases hB:i+1=p.length∨p.getD i 0<p.getD (i+1) 0
  ·rw[if_pos hB]
   generalize hs:(flS p i).2=s at*
   generalize hL:(flS p i).1=L at*
   simp only
   have he:i+1=p.length∨¬p.getD (i+1) 0<p.getD i 0:=by
    rcases hB with g|g
    ·exact .inl g
    ·exact .inr (by omega)
   have hr:=run_end h1 (by omega) he h4
   refine⟨Nat.le_refl _,by simp;omega,fun r hr=> ?_,fun t g1 g2=>by omega,by intros;trivial,O++((p.drop s).take (i+1 - s)).reverse, ?_, ?_, ?_⟩
   ·rcases List.mem_append.1 hr with g|g
    ·exact h3 r g
    ·rw[List.mem_singleton]at g;subst g
     refine⟨rfl, ?_, ?_, ?_⟩<;>simp<;>omega
   ·simp only[List.length_append,List.length_reverse,List.length_take,List.length_drop];omega
   ·rw[popF,List.foldl_append,List.foldl_cons,List.foldl_nil,←popF,o2]
    unfold popG
    have e0:([(s:Int)+1,(i:Int)+1].getD 0 0 - 1).toNat=s:=by simp
    have e1:([(s:Int)+1,(i:Int)+1].getD 1 0).toNat=i+1:=by simp<;>omega
    rw[e0,e1]
    congr 1
    ·congr 1
     ·rw[←o1,List.take_append_of_le_length (Nat.le_refl _),List.take_length]
     ·rw[←o1,List.drop_append_of_le_length (Nat.le_refl _),List.drop_length,List.nil_append]
    ·rw[List.drop_append,List.drop_of_length_le (by omega),List.nil_append,List.drop_drop,show s+(i+1 - O.length)=i+1 by omega]
   ·rw[List.append_assoc,←hr];exact o3
  ·rw[if_neg hB]
   refine⟨by omega,by omega,h3,fun t g1 g2=> ?_,fun e=>absurd (.inl e) hB,O,o1,o2,o3⟩
   rcases Nat.lt_or_ge t i with g|g
   ·exact h4 t g1 g
   ·obtain rfl:t=i:=by omega
    have hne:p.getD t 0≠p.getD (t+1) 0:=fun e=>by
     rw[List.getD_eq_getElem?_getD,List.getD_eq_getElem?_getD,List.getElem?_eq_getElem (by omega),List.getElem?_eq_getElem (by omega)]at e
     exact List.pairwise_iff_getElem.1 (List.nodup_iff_pairwise_ne.1 hn) t (t+1) (by omega) (by omega) (by omega) (by simpa using e)
    omega
theorem fl_pop {p:List Int} (hn:p.Nodup):popF (flS p p.length).1 p=ppF p:=by
 obtain⟨_,_,_,_,h5,O,o1,o2,o3⟩:=flS_f hn (Nat.le_refl _)
 rw[h5 rfl,List.drop_length]at o2 o3
 rw[o2,←o3];simp[ppR]
theorem impl_falls_c {m0:Bool} (p:List Int) (hl:p.length≤8) (hn:p.Nodup):Fun Tryz.prog 135 [(.sl (.lent m0) (List.map (PV.int .i64) (p)))] [(.sl .own (List.map (elI false) ((flS p p.length).1)))]:=by
 refine fO sg0 [2] Tryz.func135 ?_
 refine dEa trivial ?_
 all_goals try (refine zlf ?_;repeat' first|exact zso|refine And.intro ?_ ?_|(refine zim ?_;intro zb hc)|(refine zin ?_;intro zb)|intro j')
 all_goals try refine zbx ?_
 refine v_loopB (fun ms1 S1=>∃(i:Nat),S1.e 0=.p (.sl (.lent m0) (List.map (PV.int .i64) (p)))∧OwnL (S1.e 3) S1.h S1.n (elI false) (((flS p i).1).length) ((flS p i).1)∧S1.e 4=.p (.int .i64 ((flS p i).2))∧S1.e 8=.p (.int .i64 (p.length))∧S1.e 9=.p (.int .i64 (i))∧(i≤p.length)∧ms1=p.length - i) ((fun(i:Nat)=>p.length - i) (0)) ?_ ⟨0,dC trivial ?_⟩
 all_goals try (refine zlf ?_;repeat' first|exact zso|refine And.intro ?_ ?_|(refine zim ?_;intro zb hc)|(refine zin ?_;intro zb)|intro j')
 all_goals try refine zbx ?_
 rintro ms1 S1 ⟨i,h1_0,o1_3,h1_4,h1_8,h1_9,c1_0,hm1⟩
 obtain⟨i1_3,h1_3,b1_3,l1_3⟩:=o1_3.out
 have ni1_3:=znds (x:=i1_3) (n:=S1.n)
 have fL1:=(And.intro h1_0 (And.intro h1_4 (And.intro h1_8 (And.intro h1_9 (And.intro h1_3 (And.intro b1_3 ni1_3))))))
 ·obtain⟨b1,b2,_⟩:=flS_f hn c1_0
  by_cases hi:i<p.length
  ·have e0:flS p (i+1)=if i+1=p.length∨p.getD i 0<p.getD (i+1) 0 then((flS p i).1++[[((flS p i).2:Int)+1,(i:Int)+1]],i+1)else flS p i:=rfl
   have ei:((i:Int)+1).toNat=i+1:=by omega
   by_cases hE:i+1=p.length
   ·rw[if_pos (.inl hE)]at e0
    have e1:(flS p (i+1)).1=(flS p i).1++[[((flS p i).2:Int)+1,(i:Int)+1]]:=by rw[e0]
    have e2:(flS p (i+1)).2=i+1:=by rw[e0]
    have hE':((i:Int)+1=(p.length:Int))=True:=eq_true (by omega)
    refine dEa (And.intro fL1 (And.intro @hE' @ei)) ?_
    all_goals try (refine zlf ?_;repeat' first|exact zso|refine And.intro ?_ ?_|(refine zim ?_;intro zb hc)|(refine zin ?_;intro zb)|intro j')
    all_goals try refine zbx ?_
    focus
     refine q_lp_n ((fun(i:Nat)=>p.length - i) (i+1)) (dC fL1 ?_) ⟨i+1,dC fL1 ?_⟩
     all_goals try (refine zlf ?_;repeat' first|exact zso|refine And.intro ?_ ?_|(refine zim ?_;intro zb hc)|(refine zin ?_;intro zb)|intro j')
     all_goals try refine zbx ?_
    all_goals(first|(rw[e1];done)|(rw[e2];done)|(rw[e2];rfl)|(rw[e1,List.length_append];rfl)|(rw[e1,List.map_append];rfl)|skip)
    all_goals trace_state
   ·have hE':((i:Int)+1=(p.length:Int))=False:=eq_false (by omega)
    by_cases hr:p.getD i 0<p.getD (i+1) 0
    ·rw[if_pos (.inr hr)]at e0
     have e1:(flS p (i+1)).1=(flS p i).1++[[((flS p i).2:Int)+1,(i:Int)+1]]:=by rw[e0]
     have e2:(flS p (i+1)).2=i+1:=by rw[e0]
     refine dEa (And.intro fL1 (And.intro @hE' (And.intro @hr @ei))) ?_
     all_goals try (refine zlf ?_;repeat' first|exact zso|refine And.intro ?_ ?_|(refine zim ?_;intro zb hc)|(refine zin ?_;intro zb)|intro j')
     all_goals try refine zbx ?_
     focus
      refine q_lp_n ((fun(i:Nat)=>p.length - i) (i+1)) (dC fL1 ?_) ⟨i+1,dC fL1 ?_⟩
      all_goals try (refine zlf ?_;repeat' first|exact zso|refine And.intro ?_ ?_|(refine zim ?_;intro zb hc)|(refine zin ?_;intro zb)|intro j')
      all_goals try refine zbx ?_
     all_goals(first|(rw[e1];done)|(rw[e2];done)|(rw[e2];rfl)|(rw[e1,List.length_append];rfl)|(rw[e1,List.map_append];rfl)|skip)
     all_goals trace_state
    ·rw[if_neg (by omega)]at e0
     have hr':(p.getD i 0<p.getD (i+1) 0)=False:=eq_false hr
     refine dEa (And.intro fL1 (And.intro @hE' (And.intro @hr' @ei))) ?_
     all_goals try (refine zlf ?_;repeat' first|exact zso|refine And.intro ?_ ?_|(refine zim ?_;intro zb hc)|(refine zin ?_;intro zb)|intro j')
     all_goals try refine zbx ?_
     focus
      refine q_lp_n ((fun(i:Nat)=>p.length - i) (i+1)) (dC fL1 ?_) ⟨i+1,dC fL1 ?_⟩
      all_goals try (refine zlf ?_;repeat' first|exact zso|refine And.intro ?_ ?_|(refine zim ?_;intro zb hc)|(refine zin ?_;intro zb)|intro j')
      all_goals try refine zbx ?_
     all_goals(first|(rw[e0];done)|skip)
     all_goals trace_state
  ·obtain rfl:i=p.length:=by omega
   refine dEa fL1 ?_
   all_goals try (refine zlf ?_;repeat' first|exact zso|refine And.intro ?_ ?_|(refine zim ?_;intro zb hc)|(refine zin ?_;intro zb)|intro j')
   all_goals try refine zbx ?_
   all_goals trace_state
 all_goals trace_state
theorem impl_popPass_c {m0:Bool} (p:List Int) (hl:p.length≤8) (hn:p.Nodup):Fun Tryz.prog 94 [(.sl (.lent m0) (List.map (PV.int .i64) (p)))] [(.sl .own (List.map (PV.int .i64) (ppF p)))]:=by
 refine fO sgRv [2] Tryz.func94 ?_
 have cE1:= @slices_Clone_c;have cE2:= @impl_falls_c;have cM1:= @slices_Reverse_int_int_c;have cD1:=zdh [false,false,false,false,false,false,false,false,false,true] []
 have hr:=rev_inpl
 obtain⟨_,b2,b3,_⟩:=flS_f hn (Nat.le_refl p.length)
 have bp:=fl_pop hn
 generalize hF:(flS p p.length).1=F at*
 have cM2:= @hr
 refine dEa @hF ?_
 all_goals try (refine zlf ?_;repeat' first|exact zso|refine And.intro ?_ ?_|(refine zim ?_;intro zb hc)|(refine zin ?_;intro zb)|intro j')
 all_goals try refine zbx ?_
 refine v_loopB (fun ms1 S1=>∃(k:Nat),OwnL (S1.e 3) S1.h S1.n (PV.int .i64) ((popF (F.take k) p).length) (popF (F.take k) p)∧OwnL (S1.e 9) S1.h S1.n (elI false) ((F).length) (F)∧S1.e 10=.p (.int .i64 (F.length))∧S1.e 11=.p (.int .i64 (k))∧(k≤F.length)∧NId (S1.e 9) (S1.e 3)∧ms1=F.length - k) ((fun(k:Nat)=>F.length - k) (0)) ?_ ⟨0,dC trivial ?_⟩
 all_goals try (refine zlf ?_;repeat' first|exact zso|refine And.intro ?_ ?_|(refine zim ?_;intro zb hc)|(refine zin ?_;intro zb)|intro j')
 all_goals try refine zbx ?_
 rintro ms1 S1 ⟨k,o1_3,o1_9,h1_10,h1_11,c1_0,u1_0,hm1⟩
 obtain⟨i1_3,h1_3,b1_3,l1_3⟩:=o1_3.out
 obtain⟨i1_9,h1_9,b1_9,l1_9⟩:=o1_9.out
 have k1_0:=(u1_0).out h1_9 h1_3
 have ni1_3:=znds (x:=i1_3) (n:=S1.n)
 have ni1_9:=znds (x:=i1_9) (n:=S1.n)
 have di1_3i1_9:=zdne (x:=i1_3) (y:=i1_9)
 have fL1:=(And.intro h1_10 (And.intro h1_11 (And.intro h1_3 (And.intro b1_3 (And.intro h1_9 (And.intro b1_9 (And.intro ni1_3 (And.intro ni1_9 di1_3i1_9))))))))
 ·have q1:(popF (F.take k) p).length=p.length:=popF_len rfl fun r hr=>(b3 r (List.mem_of_mem_take hr)).2
  by_cases hk:k<F.length
  ·obtain⟨r1,r2,r3,r4⟩:=b3 _ (getD_mem (l:=F) (i:=k) (d:=[]) hk)
   have e1:popF (F.take (k+1)) p=popG (popF (F.take k) p) (F.getD k []):=by rw[take_getD (d:=[]) hk,popF,List.foldl_append];rfl
   unfold popG at e1
   have q2:(popF (F.take (k+1)) p).length=p.length:=popF_len rfl fun r hr=>(b3 r (List.mem_of_mem_take hr)).2
   have e6:((F.getD k []).getD 0 0 - 1).toNat+(((F.getD k []).getD 1 0).toNat - ((F.getD k []).getD 0 0 - 1).toNat)=((F.getD k []).getD 1 0).toNat:=by omega
   have cM2:= @hr
   refine dEa fL1 ?_
   all_goals try (refine zlf ?_;repeat' first|exact zso|refine And.intro ?_ ?_|(refine zim ?_;intro zb hc)|(refine zin ?_;intro zb)|intro j')
   all_goals try refine zbx ?_
   focus
    refine q_lp_n ((fun(k:Nat)=>F.length - k) (k+1)) (dC fL1 ?_) ⟨k+1,dC fL1 ?_⟩
    all_goals try (refine zlf ?_;repeat' first|exact zso|refine And.intro ?_ ?_|(refine zim ?_;intro zb hc)|(refine zin ?_;intro zb)|intro j')
    all_goals try refine zbx ?_
   all_goals(first|(rw[e1];done)|(rw[q1,q2];done)|(rw[e6,e1,List.append_assoc];done)|skip)
   all_goals trace_state
  ·rw[List.take_of_length_le (by omega),bp]at q1
   have e2:popF (F.take k) p=ppF p:=by rw[List.take_of_length_le (by omega),bp]
   have cM2:= @hr
   refine dEa (And.intro fL1 @e2) ?_
   all_goals try (refine zlf ?_;repeat' first|exact zso|refine And.intro ?_ ?_|(refine zim ?_;intro zb hc)|(refine zin ?_;intro zb)|intro j')
   all_goals try refine zbx ?_
   all_goals(first|exact e2|skip)
   all_goals trace_state
 all_goals trace_state
theorem impl_PopTimes_c {m0:Bool} (p:List Int) (hl:p.length≤1048576):Fun Tryz.prog 48 [(.sl (.lent m0) (List.map (PV.int .i64) (p)))] [(.int .i64 (tmR ppF p))]:=by
 by_cases h:isPermB p=true
 ·have c1:=fun m0:Bool=>impl_timesOf_c (m0:=m0) p 94 ppF h (fun q hq _=>ppF_ok hq) (fun m q hl hq=>impl_popPass_c (m0:=m) q hl (permB_iff.1 hq).2)
  rw[tmR,if_pos h]
  refine fO sg0 [2] Tryz.func48 ?_
  have cE1:= @impl_IsPerm_c;have cE2:= @impl_timesOf_c;have cE3:= @impl_popPass_c
  have cE1:= @c1;have cE2:= @impl_IsPerm_c
  refine dEa @h ?_
  all_goals try (refine zlf ?_;repeat' first|exact zso|refine And.intro ?_ ?_|(refine zim ?_;intro zb hc)|(refine zin ?_;intro zb)|intro j')
  all_goals try refine zbx ?_
  all_goals trace_state
 ·rw[tmR,if_neg h]
  rw[Bool.not_eq_true]at h
  refine fO sg0 [2] Tryz.func48 ?_
  have cE1:= @impl_IsPerm_c;have cE2:= @impl_timesOf_c;have cE3:= @impl_popPass_c
  refine dEa @h ?_
  all_goals try (refine zlf ?_;repeat' first|exact zso|refine And.intro ?_ ?_|(refine zim ?_;intro zb hc)|(refine zin ?_;intro zb)|intro j')
  all_goals try refine zbx ?_
  all_goals trace_state
set_option maxHeartbeats 4000000 in
theorem spec_PopTimes_c {m0:Bool} (p:List Int) (hl:p.length≤1048576):Fun Tryz.prog 34 [(.sl (.lent m0) (List.map (PV.int .i64) (p)))] [(.int .i64 (tmR ppF p))]:=by
 by_cases h:isPermB p=true
 ·obtain⟨h8,hq⟩:=isPerm_facts h
  have h64:mIv p≤64:=Nat.le_trans mIv_le (Nat.mul_le_mul h8 h8)
  rw[tmR,if_pos h]
  refine fO sg0 [2] Tryz.func34 ?_
  have cE1:= @spec_IsPerm_c;have cE2:= @spec_l13Straight_c;have cE3:= @spec_l22Pass_c
  refine dEa @h ?_
  all_goals try (refine zlf ?_;repeat' first|exact zso|refine And.intro ?_ ?_|(refine zim ?_;intro zb hc)|(refine zin ?_;intro zb)|intro j')
  all_goals try refine zbx ?_
  refine v_loopB (fun ms1 S1=>∃(b:Bool) (id:Nat) (q:List Int) (k:Nat) (d:Nat),S1.e 0=(bif b then AV.p (.sl (.lent m0) (List.map (PV.int .i64) q))else AV.ref id 0 q.length)∧S1.e 3=.p (.int .i64 (k))∧(permB q=true)∧(q.length=p.length)∧((k:Int)+tmN ppF d q=tmN ppF 64 p)∧(mIv q≤d)∧(k+d=64)∧(b=true∨(id<S1.n∧S1.h id=.live false (List.map (PV.int .i64) q)))∧ms1=d) ((fun(b:Bool) (id:Nat) (q:List Int) (k:Nat) (d:Nat)=>d) (true) (0) (p) (0) (64)) ?_ ⟨true,0,p,0,64,dC trivial ?_⟩
  all_goals try (refine zlf ?_;repeat' first|exact zso|refine And.intro ?_ ?_|(refine zim ?_;intro zb hc)|(refine zin ?_;intro zb)|intro j')
  all_goals try refine zbx ?_
  rintro ms1 S1 ⟨b,id,q,k,d,h1_0,h1_3,c1_0,c1_1,c1_2,c1_3,c1_4,c1_5,hm1⟩
  have fL1:=(And.intro h1_0 h1_3)
  ·have q8:q.length≤8:=by omega
   obtain⟨f1,f2,f3⟩:=ppF_ok c1_0
   cases hu:upB q with
   |true=>
    rw[tmN_up hu]at c1_2
    cases b with
    |true=>
     simp only[cond_true]at h1_0
     refine dEa (And.intro fL1 (And.intro @h1_0 @hu)) ?_
     all_goals try (refine zlf ?_;repeat' first|exact zso|refine And.intro ?_ ?_|(refine zim ?_;intro zb hc)|(refine zin ?_;intro zb)|intro j')
     all_goals try refine zbx ?_
     all_goals trace_state
    |false=>
     simp only[cond_false]at h1_0
     rcases c1_5 with e|⟨e1,e2⟩
     ·cases e
     ·have n4:=znds e1
      refine dEa (And.intro fL1 (And.intro @h1_0 (And.intro @e2 (And.intro @n4 @hu)))) ?_
      all_goals try (refine zlf ?_;repeat' first|exact zso|refine And.intro ?_ ?_|(refine zim ?_;intro zb hc)|(refine zin ?_;intro zb)|intro j')
      all_goals try refine zbx ?_
      all_goals trace_state
   |false=>
    have f4:=f3 hu
    obtain⟨d,rfl⟩:∃e,d=e+1:=⟨d - 1,by omega⟩
    rw[tmN,hu,if_neg (by decide)]at c1_2
    cases b with
    |true=>
     simp only[cond_true]at h1_0
     refine dEa (And.intro fL1 (And.intro @h1_0 @hu)) ?_
     all_goals try (refine zlf ?_;repeat' first|exact zso|refine And.intro ?_ ?_|(refine zim ?_;intro zb hc)|(refine zin ?_;intro zb)|intro j')
     all_goals try refine zbx ?_
     focus
      refine q_lp_n ((fun(b:Bool) (id:Nat) (q:List Int) (k:Nat) (d:Nat)=>d) (false) (S1.n+1024) (ppF q) (k+1) (d)) (dC fL1 ?_) ⟨false,S1.n+1024,ppF q,k+1,d,dC fL1 ?_⟩
      all_goals try (refine zlf ?_;repeat' first|exact zso|refine And.intro ?_ ?_|(refine zim ?_;intro zb hc)|(refine zin ?_;intro zb)|intro j')
      all_goals try refine zbx ?_
     all_goals(first|(rw[←c1_2];omega)|skip)
     all_goals trace_state
    |false=>
     simp only[cond_false]at h1_0
     rcases c1_5 with e|⟨e1,e2⟩
     ·cases e
     ·have n4:=znds e1
      refine dEa (And.intro fL1 (And.intro @h1_0 (And.intro @e2 (And.intro @n4 @hu)))) ?_
      all_goals try (refine zlf ?_;repeat' first|exact zso|refine And.intro ?_ ?_|(refine zim ?_;intro zb hc)|(refine zin ?_;intro zb)|intro j')
      all_goals try refine zbx ?_
      focus
       refine q_lp_n ((fun(b:Bool) (id:Nat) (q:List Int) (k:Nat) (d:Nat)=>d) (false) (S1.n+1024) (ppF q) (k+1) (d)) (dC fL1 ?_) ⟨false,S1.n+1024,ppF q,k+1,d,dC fL1 ?_⟩
       all_goals try (refine zlf ?_;repeat' first|exact zso|refine And.intro ?_ ?_|(refine zim ?_;intro zb hc)|(refine zin ?_;intro zb)|intro j')
       all_goals try refine zbx ?_
      all_goals(first|(rw[←c1_2];omega)|skip)
      all_goals trace_state
  all_goals trace_state
 ·rw[tmR,if_neg h]
  rw[Bool.not_eq_true]at h
  refine fO sg0 [2] Tryz.func34 ?_
  have cE1:= @spec_IsPerm_c;have cE2:= @spec_l13Straight_c;have cE3:= @spec_l22Pass_c
  refine dEa @h ?_
  all_goals try (refine zlf ?_;repeat' first|exact zso|refine And.intro ?_ ?_|(refine zim ?_;intro zb hc)|(refine zin ?_;intro zb)|intro j')
  all_goals try refine zbx ?_
  all_goals trace_state
theorem slices_Grow_c (n:Nat) (h1:n≤1000000):
  Fun Tryz.prog 225 [.sl .own [],.int .i64 n] [.sl .own []]:=by
 refine Fun.of_row 3 Tryz.func225 rfl rfl rfl (fun x hx=>by cases hx) ?_
 intro w F G vs _ hv
 simp only[RepL]at hv
 obtain⟨a,vs1,rfl,ha,b,vs2,rfl,hb,rfl⟩:=hv
 simp only[RepP]at ha hb
 subst hb
 obtain⟨ad,cap,rfl,_,_,hown,_⟩:=ha
 obtain⟨_,rfl,rfl⟩:=hown trivial
 by_cases h0:n=0
 ·subst h0
  refine(Tryz.slices_Grow_room none 0 0 0 w (Nat.le_refl _) (by omega) (by omega) (Nat.le_refl _)).mono ?_
  rintro e w' ⟨rfl,rfl⟩
  exact⟨_,rfl,⟨rfl,.inl ⟨rfl,rfl⟩⟩,Go.RowKit.Below.refl _ _⟩
 ·obtain⟨i0,hi,hz0,hz1,hz2⟩:=info_parts (P:=Tryz.prog) (e:=3) (show(Tryz.prog.info? 3).map (fun i=>(i.zero,i.size,i.bytes))=some (some (.int .i64 0),1,8)by kernel_rfl)
  have key:=Any8.slices_Grow_grow Tryz.laysGrow i0 (.int .i64 0) hi hz0 (by rw[hz1];decide) none 0 0 n [] w (Nat.le_refl _) (by omega) (by rw[hz2];omega) (by omega) (by simp) (fun _=>rfl) (fun a h=>by cases h)
  refine Calls.mono key ?_
  rintro e w' ⟨rfl,rfl⟩
  have g1:=grownCap_ge w (0+n) 0 (Tryz.laysGrow_ren.t 25)
  have g2:=grownCap_le_maxLen w (0+n) 0 (Tryz.laysGrow_ren.t 25) (by unfold maxLen;omega)
  refine⟨_,rfl,⟨rfl,.inr ⟨w.heap.size,grownCap w (0+n) 0 (Tryz.laysGrow_ren.t 25), #[]++Builtin.zeroCells (Value.int IntKind.i64 0).cells (0+n - 0)++Builtin.zeroCells (Value.int IntKind.i64 0).cells (grownCap w (0+n) 0 (Tryz.laysGrow_ren.t 25) - (0+n)),rfl,Nat.le_refl _,(MapKept.heap_alloc w.drew _).1,Nat.zero_le _,g2, ?_,rfl⟩⟩, ?_⟩
  ·simp only[Nat.zero_add]at g1 g2 ⊢
   simp[Builtin.zeroCells,Value.cells]
   omega
  ·exact((Go.RowKit.Below.refl w.heap.size w).drew).alloc (Nat.le_refl _) _
theorem slices_Grow_d (n:Nat) (h1:n≤1000000):Fun Tryz.prog 225 [.sl .own [],.int .i64 n] [.sl .own (List.map (PV.int .i64) [])]:=slices_Grow_c n h1
mutual
def wk:PV→PV
 | .sl .fr xs=>.sl .ro (wkL xs)
 | .sl .ro xs=>.sl .ro (wkL xs)
 | .agg xs=>.agg (wkL xs)
 | .sl .own xs=>.sl .own xs
 | .int k n=>.int k n
 | .bool b=>.bool b
 | .str s=>.str s
 | .fn f a b=>.fn f a b
 | .nilf=>.nilf
 | .pc xs=>.pc xs
 | .any=>.any
 | .dl rows=>.dl rows
 | .bx xs=>.bx xs
 | .nl=>.nl
def wkL:List PV→List PV
 |[]=>[]
 |x::xs=>wk x::wkL xs
end
theorem wkL_len:∀{xs:List PV},(wkL xs).length=xs.length
 |[]=>rfl
 |x::xs=>by simp only[wkL,List.length_cons,wkL_len (xs:=xs)]
theorem wkL_map {α:Type} {f g:α→PV} (h:∀a,wk (f a)=g a):∀{l:List α},wkL (l.map f)=l.map g
 |[]=>rfl
 |x::l=>by simp only[List.map_cons,wkL,h,wkL_map h (l:=l)]
mutual
theorem RepP.wk {w:World} {F G:Nat→Prop}:∀(x:PV) (v:Value),RepP w F G x v→RepP w F G (Gl.wk x) v
 | .int _ _,_,h=>h
 | .bool _,_,h=>h
 | .str _,_,h=>h
 | .nilf,_,h=>h
 | .any,_,_=>trivial
 | .dl _,_,h=>by simp only[RepP]at h
 | .nl,_,h=>h
 | .bx _,_,h=>h
 | .fn _ _ _,_,h=>h
 | .pc _,_,h=>h
 | .sl o xs,v,h=>by
  cases o with
  |own=>exact h
  |ro=>
   simp only[Gl.wk,RepP]at h ⊢
   obtain⟨a,cap,hv,hl,hm,ho,hx⟩:=h
   refine⟨a,cap,by rw[wkL_len];exact hv,by rw[wkL_len];exact hl,hm,fun q=>(by cases q), ?_⟩
   rcases hx with hx|⟨B,off,ha,hF,hG,hc⟩
   ·subst hx;exact .inl (by simp only[wkL])
   ·exact .inr ⟨B,off,ha,hF,fun q=>(by cases q),RepC.wk xs B off hc⟩
  |fr=>
   simp only[Gl.wk,RepP]at h ⊢
   obtain⟨a,cap,hv,hl,hm,ho,hx⟩:=h
   refine⟨a,cap,by rw[wkL_len];exact hv,by rw[wkL_len];exact hl,hm,fun q=>(by cases q), ?_⟩
   rcases hx with hx|⟨B,off,ha,hF,hG,hc⟩
   ·subst hx;exact .inl (by simp only[wkL])
   ·exact .inr ⟨B,off,ha,hF,fun q=>(by cases q),RepC.wk xs B off hc⟩
 | .agg xs,v,h=>by
  simp only[Gl.wk,RepP]at h ⊢
  obtain⟨cs,hv,hx⟩:=h
  exact⟨cs,hv,RepL.wk xs cs hx⟩
theorem RepC.wk {w:World} {F G:Nat→Prop}:∀(xs:List PV) (B o:Nat),RepC w F G B o xs→RepC w F G B o (wkL xs)
 |[],_,_,_=>by simp only[wkL,RepC]
 |x::xs,B,o,h=>by
  simp only[wkL,RepC]at h ⊢
  obtain⟨⟨v,hv,h1,hx⟩,hr⟩:=h
  exact⟨⟨v,hv,h1,RepP.wk x v hx⟩,RepC.wk xs B (o+1) hr⟩
theorem RepL.wk {w:World} {F G:Nat→Prop}:∀(xs:List PV) (vs:List Value),RepL w F G xs vs→RepL w F G (wkL xs) vs
 |[],vs,h=>h
 |x::xs,vs,h=>by
  simp only[wkL,RepL]at h ⊢
  obtain⟨v,vs',rfl,h1,h2⟩:=h
  exact⟨v,vs',rfl,RepP.wk x v h1,RepL.wk xs vs' h2⟩
end
theorem Fun.wk {P:Program} {f:FuncId} {args args' res:List PV} (e:wkL args=args') (h:Fun P f args' res):Fun P f args res:=by
 subst e
 obtain⟨h1,h2,h3,h4,h5⟩:=h
 refine⟨h1,h2,h3,h4,fun w G ι vs amb hG ok hrp=> ?_⟩
 have hlen:(List.map Arg.pv (wkL args)).length=(args.map Arg.pv).length:=by simp only[List.length_map,wkL_len]
 have hH:argH ((wkL args).map .pv)=argH (args.map .pv):=by
  funext j
  unfold argH
  rw[List.getElem?_map,List.getElem?_map]
  cases (wkL args)[j]? <;>cases args[j]? <;>rfl
 have hM:argM ((wkL args).map .pv) ι=argM (args.map .pv) ι:=by funext B;unfold argM;rw[hH]
 have hP:postH false ((wkL args).map .pv) [] res=postH false (args.map .pv) [] res:=by
  unfold postH
  have:outH ((wkL args).map .pv) []=outH (args.map .pv) []:=by
   funext j
   unfold outH
   rw[List.getElem?_map,List.getElem?_map]
   cases (wkL args)[j]? <;>cases args[j]? <;>rfl
  rw[this,hlen]
 have hrep:∀(l:List PV) (vs:List Value) (k:Nat),RepAL w (Held (argH (args.map .pv)) ι) G ι (argAVs k (l.map .pv)) vs→RepAL w (Held (argH (args.map .pv)) ι) G ι (argAVs k ((wkL l).map .pv)) vs:=by
  intro l
  induction l with
  |nil=>intro vs k h;exact h
  |cons x l ih=>
   intro vs k h
   simp only[wkL,List.map_cons,argAVs,Arg.av,RepAL,RepA]at h ⊢
   obtain⟨v,vs',rfl,h1,h2⟩:=h
   exact⟨v,vs',rfl,RepP.wk x v h1,ih _ _ h2⟩
 have key:=h5 w G ι vs (by rw[hM];exact amb) hG (by rw[hM,hH];exact ok) (by rw[hH];exact hrep args vs 0 hrp)
 rw[hM,hP,hlen]at key
 exact key
end Go.Gl
