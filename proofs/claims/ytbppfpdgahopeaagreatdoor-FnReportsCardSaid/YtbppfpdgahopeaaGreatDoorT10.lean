/-
  What the functions compute, and what the law asks of it: texts joined. Conditions: those that each lemma names.
-/
import Derived.Test.YtbppfpdgahopeaaGreatDoorT9
import Derived.Test.YtbppfpdgahopeaaGreatDoorT2
import Derived.Test.YtbppfpdgahopeaaGreatDoorT3
import Derived.Test.YtbppfpdgahopeaaGreatDoorT8
import Derived.Test.YtbppfpdgahopeaaGreatDoorT6
import Derived.Test.YtbppfpdgahopeaaGreatDoorT4
import Derived.Test.YtbppfpdgahopeaaGreatDoorT1
import Derived.Test.YtbppfpdgahopeaaGreatDoorGlC
import Derived.Test.YtbppfpdgahopeaaGreatDoorT5
set_option linter.unusedSimpArgs false
set_option linter.unusedVariables false
set_option maxRecDepth 20000
set_option linter.unusedSectionVars false
set_option maxHeartbeats 16000000
namespace Go.Gl
open Go Go.Proofs
variable [Amb] [NoQ]
def ub (x:Int) (a:Int×Int) (y:Int×Int×Int):Int×Int:=if y.1<x then a else if y.2.1+1<a.1 then a else if a.1<y.2.1+1 then(y.2.1+1,y.2.2)else(a.1,a.2+y.2.2)
def lj:List Int→List (Int×Int)
 |[]=>[]
 |x::l=>(l.zip (lj l)).foldl (ub x) (1,1)::lj l
theorem gM:∀{l:List Int},(lj l).length=l.length
 |[]=>rfl
 |_::l=>by simp[lj,gM (l:=l)]
theorem tE:∀{l:List Int} {k:Nat},(lj l).getD k (0,0)=(lj (l.drop k)).getD 0 (0,0)
 |_,0=>by rw[List.drop_zero]
 |[],k+1=>by simp[lj]
 |x::l,k+1=>by rw[List.drop_succ_cons,←tE,lj,List.getD_cons_succ]
theorem L8 {l:List Int} {i:Nat} (h:i<l.length):(lj (l.drop i)).getD 0 (0,0)=((l.drop (i+1)).zip (lj (l.drop (i+1)))).foldl (ub (l.getD i 0)) (1,1):=by
 rw[aY h,lj,List.getD_cons_zero]
theorem ye {x:Int} {B:Nat}:∀{l:List Int} {c:List (Int×Int)} {a:Int×Int},((l.zip c).foldl (ub x) a).1=(l.zip (c.map Prod.fst)).foldl (fun v y=>if vZ x y.1=true then max v (y.2+1)else v) a.1
 |[],_,_=>by simp
 |_::_,[],_=>by simp
 |y::l,z::c,a=>by
  simp only[List.map_cons,List.zip_cons_cons,List.foldl_cons]
  rw[ye (B:=B)]
  congr 1
  unfold ub vZ
  by_cases h:y<x
  ·simp[h]
  ·simp only[h,if_false,decide_false,Bool.not_false,if_true]
   split
   ·omega
   ·split<;>simp only<;>omega
theorem o5:∀{l:List Int},(lj l).map Prod.fst=jv vZ l
 |[]=>rfl
 |x::l=>by
  rw[lj,List.map_cons,o5,jv,Ij,←o5 (l:=l),ye (B:=0)]
theorem IZ {x:Int} {n B:Nat}:∀{l:List Int} {c:List (Int×Int)} {a:Int×Int} {m:Nat},(∀y∈c,0≤y.1∧y.1≤(n:Int)∧0≤y.2∧y.2≤(B:Int))→0≤a.1∧a.1≤(n:Int)+1∧0≤a.2∧a.2≤(m:Int)→B≤m→
   0≤((l.zip c).foldl (ub x) a).1∧((l.zip c).foldl (ub x) a).1≤(n:Int)+1∧0≤((l.zip c).foldl (ub x) a).2∧((l.zip c).foldl (ub x) a).2≤((m+l.length*B:Nat):Int)
 |[],_,a,m,_,h,_=>by simp;omega
 |y::l,[],a,m,_,h,_=>by
  rw[List.zip_nil_right,List.foldl_nil]
  have:=Nat.le_add_right m ((y::l).length*B)
  omega
 |y::l,z::c,a,m,hc,h,hB=>by
  have hz:=hc z List.mem_cons_self
  have hs:0≤(ub x a (y,z)).1∧(ub x a (y,z)).1≤(n:Int)+1∧0≤(ub x a (y,z)).2∧(ub x a (y,z)).2≤((m+B:Nat):Int):=by
   unfold ub
   split
   ·omega
   ·split
    ·omega
    ·split<;>simp only<;>omega
  have:=IZ (x:=x) (l:=l) (c:=c) (m:=m+B) (fun y hy=>hc y (List.mem_cons_of_mem _ hy)) hs (by omega)
  rw[List.zip_cons_cons,List.foldl_cons,List.length_cons,Nat.succ_mul]
  refine⟨this.1,this.2.1,this.2.2.1, ?_⟩
  have h4:=this.2.2.2
  have e:m+B+l.length*B=m+(l.length*B+B):=by omega
  rw[e]at h4;exact h4
theorem CS:∀{l:List Int},l.length≤8→∀y∈lj l,0≤y.1∧y.1≤(l.length:Int)∧0≤y.2∧y.2≤((9^l.length:Nat):Int)
 |[],_=>by simp[lj]
 |x::l,h=>by
  rw[List.length_cons]at h ⊢
  have ih:=CS (l:=l) (by omega)
  have e:9^(l.length+1)=9*9^l.length:=by rw[Nat.pow_succ,Nat.mul_comm]
  have p0:0<9^l.length:=Nat.pow_pos (by decide)
  intro y hy
  rw[lj]at hy
  rcases List.mem_cons.1 hy with g|g
  ·have:=IZ (x:=x) (l:=l) (c:=lj l) (a:=(1,1)) (m:=9^l.length) ih ⟨by decide,by simp only;omega,by decide,by simp only;omega⟩ (Nat.le_refl _)
   rw[←g]at this
   have h7:=Nat.mul_le_mul_right (9^l.length) (show l.length≤7 by omega)
   have:((l.length+1:Nat):Int)=(l.length:Int)+1:=by omega
   omega
  ·have:=ih y g
   have:((l.length+1:Nat):Int)=(l.length:Int)+1:=by omega
   omega
theorem RW:∀d,d≤8→9^d≤43046721:=by decide
theorem IY {p:List Int} (h8:p.length≤8) {k:Nat} (hk:k<p.length):0≤((lj (p.drop k)).getD 0 (0,0)).1∧((lj (p.drop k)).getD 0 (0,0)).1≤8∧0≤((lj (p.drop k)).getD 0 (0,0)).2∧((lj (p.drop k)).getD 0 (0,0)).2≤43046721:=by
 have hl:(p.drop k).length=p.length - k:=List.length_drop
 have:=CS (l:=p.drop k) (by omega) _ (ar (l:=lj (p.drop k)) (i:=0) (d:=(0,0)) (by rw[gM];omega))
 have:=RW (p.drop k).length (by omega)
 omega
def yf (p:List Int) (i t:Nat):Int×Int:=(((p.drop (i+1)).zip (lj (p.drop (i+1)))).take t).foldl (ub (p.getD i 0)) (1,1)
theorem uV {p:List Int} {i t:Nat} (h:i+1+t<p.length):yf p i (t+1)=ub (p.getD i 0) (yf p i t) (p.getD (i+1+t) 0,(lj (p.drop (i+1+t))).getD 0 (0,0)):=by
 have hl:t<((p.drop (i+1)).zip (lj (p.drop (i+1)))).length:=by rw[List.length_zip,gM,List.length_drop];omega
 unfold yf
 rw[List.take_succ_eq_append_getElem hl,List.foldl_append,List.foldl_cons,List.foldl_nil,List.getElem_zip]
 congr 1
 congr 1
 ·rw[List.getElem_drop,List.getD_eq_getElem?_getD,List.getElem?_eq_getElem (by omega)];rfl
 ·have e:=tE (l:=p.drop (i+1)) (k:=t)
  rw[List.drop_drop]at e
  rw[←e,List.getD_eq_getElem?_getD,List.getElem?_eq_getElem (by rw[gM,List.length_drop];omega)];rfl
theorem CT {p:List Int} {i j:Nat} (h:i+1≤j) (hj:j<p.length):yf p i (j+1 - (i+1))=ub (p.getD i 0) (yf p i (j - (i+1))) (p.getD j 0,(lj (p.drop j)).getD 0 (0,0)):=by
 have:=uV (p:=p) (i:=i) (t:=j - (i+1)) (by omega)
 rwa [show i+1+(j - (i+1))=j by omega,show j - (i+1)+1=j+1 - (i+1)by omega]at this
theorem Gp {p:List Int} {i t:Nat} (hi:i<p.length) (h:p.length≤i+1+t):yf p i t=(lj (p.drop i)).getD 0 (0,0):=by
 rw[L8 hi];unfold yf
 rw[List.take_of_length_le (by rw[List.length_zip,gM,List.length_drop];omega)]
theorem I0 {p:List Int} (h8:p.length≤8) {i:Nat}:∀{t:Nat},i+1+t≤p.length→0≤(yf p i t).1∧(yf p i t).1≤9∧0≤(yf p i t).2∧(yf p i t).2≤43046721*((t:Int)+1)
 |0,_=>by simp[yf]
 |t+1,h=>by
  have ih:=I0 h8 (i:=i) (t:=t) (by omega)
  have h2:=IY h8 (k:=i+1+t) (by omega)
  rw[uV (by omega)]
  unfold ub
  split
  ·omega
  ·split
   ·omega
   ·split<;>simp only<;>omega
theorem Ev {l:List Int} {i k:Nat} {x:Int} (h:k<l.length):(l.set i x).getD k 0=if i=k then x else l.getD k 0:=by
 rw[List.getD_eq_getElem?_getD,List.getElem?_set,List.getD_eq_getElem?_getD]
 by_cases e:i=k
 ·rw[if_pos e,if_pos e,if_pos (by omega)];rfl
 ·rw[if_neg e,if_neg e]
theorem qr {m0:Bool} (p:List Int) (h8:p.length≤8):Fun Tryz.prog 131 [(.sl (.lent m0) (List.map (PV.int .i64) (p)))] [(.sl .own (List.map (PV.int .i64) (jv vZ p))),(.sl .own (List.map (PV.int .i64) ((lj p).map Prod.snd)))]:=by
 refine fO aR [2,3] Tryz.func131 ?_
 have cD1:=gY [false,false,true,false,false,true,false,false] [(2,3),(2,4),(0,5),(1,5),(2,5),(5,6)];have cD2:=gY [false,false,false,false,false,false,false,false,false,false,false,false,false,false,true,false,true] [(2,14),(3,14)];have cD3:=gY [false,false,false,false,false,false,false,false,false,false,true] []
 rw[←o5]
 refine ax trivial ?_
 all_goals try(apply ai;repeat' first|exact ah|apply aa|(apply ak;intro zb hc)|(apply aj;intro zb)|intro j')<;>try apply al
 refine an (fun ms1 S1=>∃(i:Nat) (a:List Int) (c:List Int),S1.e 0=.p (.sl (.lent m0) (List.map (PV.int .i64) (p)))∧OwnL (S1.e 4) S1.h S1.n (PV.int .i64) ((a).length) (a)∧OwnL (S1.e 5) S1.h S1.n (PV.int .i64) ((c).length) (c)∧S1.e 6=.p (.int .i64 (((i:Int) - 1)))∧(i≤p.length)∧(a.length=p.length)∧(c.length=p.length)∧(∀k,i≤k→k<p.length→(a.getD k 0,c.getD k 0)=(lj (p.drop k)).getD 0 (0,0))∧NId (S1.e 5) (S1.e 4)∧ms1=i) ((fun(i:Nat) (a:List Int) (c:List Int)=>i) (p.length) (List.replicate p.length 0) (List.replicate p.length 0)) ?_ ⟨p.length,List.replicate p.length 0,List.replicate p.length 0,dC trivial ?_⟩
 all_goals try(apply ai;repeat' first|exact ah|apply aa|(apply ak;intro zb hc)|(apply aj;intro zb)|intro j')<;>try apply al
 rintro ms1 S1 ⟨i,a,c,h1_0,o1_4,o1_5,h1_6,c1_0,c1_1,c1_2,c1_3,u1_0,hm1⟩
 obtain⟨i1_4,h1_4,b1_4,l1_4⟩:=o1_4.out
 obtain⟨i1_5,h1_5,b1_5,l1_5⟩:=o1_5.out
 have k1_0:=(u1_0).out h1_5 h1_4
 have ni1_4:=aG (x:=i1_4) (n:=S1.n)
 have ni1_5:=aG (x:=i1_5) (n:=S1.n)
 have di1_4i1_5:=cQ (x:=i1_4) (y:=i1_5)
 have fL1:=(aa h1_0 (aa h1_6 (aa h1_4 (aa b1_4 (aa h1_5 (aa b1_5 (aa ni1_4 (aa ni1_5 di1_4i1_5))))))))
 ·by_cases hi:0<i
  ·obtain⟨x,rfl⟩:∃x,i=x+1:=⟨i - 1,by omega⟩
   have e1:(((x+1:Nat):Int) - 1).toNat=x:=by omega
   have e2:(((x+1:Nat):Int) - 1)+1=((x+1:Nat):Int):=by omega
   refine ax (aa fL1 (aa @e1 @e2)) ?_
   all_goals try(apply ai;repeat' first|exact ah|apply aa|(apply ak;intro zb hc)|(apply aj;intro zb)|intro j')<;>try apply al
   refine an (fun ms2 S2=>∃(j:Nat) (a:List Int) (c:List Int),S2.e 0=.p (.sl (.lent m0) (List.map (PV.int .i64) (p)))∧OwnL (S2.e 4) S2.h S2.n (PV.int .i64) ((a).length) (a)∧OwnL (S2.e 5) S2.h S2.n (PV.int .i64) ((c).length) (c)∧S2.e 6=.p (.int .i64 ((x:Int)))∧S2.e 7=.p (.int .i64 (j))∧(x+1≤j∧j≤p.length)∧(a.length=p.length)∧(c.length=p.length)∧((∀k,x+1≤k→k<p.length→(a.getD k 0,c.getD k 0)=(lj (p.drop k)).getD 0 (0,0)))∧((a.getD x 0,c.getD x 0)=yf p x (j - (x+1)))∧NId (S2.e 5) (S2.e 4)∧S1.n≤S2.n∧ms2=p.length - j) ((fun(j:Nat) (a:List Int) (c:List Int)=>p.length - j) (x+1) (a.set x 1) (c.set x 1)) ?_ ⟨x+1,a.set x 1,c.set x 1,dC fL1 ?_⟩
   all_goals try(apply ai;repeat' first|exact ah|apply aa|(apply ak;intro zb hc)|(apply aj;intro zb)|intro j')<;>try apply al
   rintro ms2 S2 ⟨j,a,c,h2_0,o2_4,o2_5,h2_6,h2_7,c2_0,c2_1,c2_2,c2_3,c2_4,u2_0,u2_1,hm2⟩
   obtain⟨i2_4,h2_4,b2_4,l2_4⟩:=o2_4.out
   obtain⟨i2_5,h2_5,b2_5,l2_5⟩:=o2_5.out
   have k2_0:=(u2_0).out h2_5 h2_4
   have ni2_4:=aG (x:=i2_4) (n:=S2.n)
   have ni2_5:=aG (x:=i2_5) (n:=S2.n)
   have di2_4i2_5:=cQ (x:=i2_4) (y:=i2_5)
   have fL2:=(aa h2_0 (aa h2_6 (aa h2_7 (aa h2_4 (aa b2_4 (aa h2_5 (aa b2_5 (aa ni2_4 (aa ni2_5 di2_4i2_5)))))))))
   ·have b1:=I0 h8 (i:=x) (t:=j - (x+1)) (by omega)
    rw[←c2_4]at b1
    by_cases ht:j<p.length
    ·have b2:=IY h8 ht
     have b3:=c2_3 j (by omega) ht
     have b4:=CT c2_0.1 ht
     rw[←c2_4,←b3]at b4
     rw[←b3]at b2
     simp only at b1 b2
     unfold ub at b4
     simp only at b4
     by_cases hA:p.getD j 0<p.getD x 0
     ·rw[if_pos hA]at b4
      refine ax (aa fL2 @hA) ?_
      all_goals try(apply ai;repeat' first|exact ah|apply aa|(apply ak;intro zb hc)|(apply aj;intro zb)|intro j')<;>try apply al
      focus
       refine am ((fun(j:Nat) (a:List Int) (c:List Int)=>p.length - j) (j+1) (a) (c)) (dC fL2 ?_) ⟨j+1,a,c,dC fL2 ?_⟩
       all_goals try(apply ai;repeat' first|exact ah|apply aa|(apply ak;intro zb hc)|(apply aj;intro zb)|intro j')<;>try apply al
      all_goals(first|(rw[b4];done)|exact c2_3|skip)
     ·rw[if_neg hA]at b4
      have hA':(p.getD j 0<p.getD x 0)=False:=eq_false hA
      by_cases hB:a.getD j 0+1<a.getD x 0
      ·rw[if_pos hB]at b4
       refine ax (aa fL2 (aa @hA' @hB)) ?_
       all_goals try(apply ai;repeat' first|exact ah|apply aa|(apply ak;intro zb hc)|(apply aj;intro zb)|intro j')<;>try apply al
       focus
        refine am ((fun(j:Nat) (a:List Int) (c:List Int)=>p.length - j) (j+1) (a) (c)) (dC fL2 ?_) ⟨j+1,a,c,dC fL2 ?_⟩
        all_goals try(apply ai;repeat' first|exact ah|apply aa|(apply ak;intro zb hc)|(apply aj;intro zb)|intro j')<;>try apply al
       all_goals(first|(rw[b4];done)|exact c2_3|skip)
      ·rw[if_neg hB]at b4
       have hB':(a.getD j 0+1<a.getD x 0)=False:=eq_false hB
       by_cases hC:a.getD x 0<a.getD j 0+1
       ·rw[if_pos hC]at b4
        refine ax (aa fL2 (aa @hA' (aa @hB' @hC))) ?_
        all_goals try(apply ai;repeat' first|exact ah|apply aa|(apply ak;intro zb hc)|(apply aj;intro zb)|intro j')<;>try apply al
        focus
         refine am ((fun(j:Nat) (a:List Int) (c:List Int)=>p.length - j) (j+1) (a.set x (a.getD j 0+1)) (c.set x (c.getD j 0))) (dC fL2 ?_) ⟨j+1,a.set x (a.getD j 0+1),c.set x (c.getD j 0),dC fL2 ?_⟩
         all_goals try(apply ai;repeat' first|exact ah|apply aa|(apply ak;intro zb hc)|(apply aj;intro zb)|intro j')<;>try apply al
        all_goals(first|(rw[b4,Ev (by omega),Ev (by omega),if_pos rfl,if_pos rfl];done)|(intro k hk1 hk2;rw[Ev (by omega),Ev (by omega),if_neg (by omega),if_neg (by omega)];exact c2_3 k hk1 hk2)|skip)
       ·rw[if_neg hC]at b4
        have hC':(a.getD x 0<a.getD j 0+1)=False:=eq_false hC
        refine ax (aa fL2 (aa @hA' (aa @hB' @hC'))) ?_
        all_goals try(apply ai;repeat' first|exact ah|apply aa|(apply ak;intro zb hc)|(apply aj;intro zb)|intro j')<;>try apply al
        focus
         refine am ((fun(j:Nat) (a:List Int) (c:List Int)=>p.length - j) (j+1) (a) (c.set x (c.getD x 0+c.getD j 0))) (dC fL2 ?_) ⟨j+1,a,c.set x (c.getD x 0+c.getD j 0),dC fL2 ?_⟩
         all_goals try(apply ai;repeat' first|exact ah|apply aa|(apply ak;intro zb hc)|(apply aj;intro zb)|intro j')<;>try apply al
        all_goals(first|(rw[b4,Ev (by omega),if_pos rfl];done)|(intro k hk1 hk2;rw[Ev (by omega),if_neg (by omega)];exact c2_3 k hk1 hk2)|skip)
    ·have b5:=Gp (p:=p) (i:=x) (t:=j - (x+1)) (by omega) (by omega)
     rw[←c2_4]at b5
     refine ax fL2 ?_
     all_goals try(apply ai;repeat' first|exact ah|apply aa|(apply ak;intro zb hc)|(apply aj;intro zb)|intro j')<;>try apply al
     focus
      refine am ((fun(i:Nat) (a:List Int) (c:List Int)=>i) (x) (a) (c)) (dC fL2 ?_) ⟨x,a,c,dC fL2 ?_⟩
      all_goals try(apply ai;repeat' first|exact ah|apply aa|(apply ak;intro zb hc)|(apply aj;intro zb)|intro j')<;>try apply al
     all_goals(first|(intro k hk1 hk2;rcases Nat.eq_or_lt_of_le hk1 with e|e;(rw[←e];exact b5);exact c2_3 k (by omega) hk2)|skip)
   all_goals(first|(rw[Ev (by omega),Ev (by omega),if_pos rfl,if_pos rfl];simp[yf];done)|(intro k hk1 hk2;rw[Ev (by omega),Ev (by omega),if_neg (by omega),if_neg (by omega)];exact c1_3 k hk1 hk2)|skip)
  ·obtain rfl:i=0:=by omega
   have q1:a=(lj p).map Prod.fst:=by
    refine List.ext_getElem (by rw[List.length_map,gM,c1_1]) fun k h1 h2=> ?_
    have:=congrArg Prod.fst (c1_3 k (by omega) (by omega))
    rw[←tE]at this
    simp only at this
    rw[List.getD_eq_getElem?_getD,List.getElem?_eq_getElem h1,List.getD_eq_getElem?_getD,List.getElem?_eq_getElem (by rw[gM];omega)]at this
    rw[List.getElem_map];exact this
   have q2:c=(lj p).map Prod.snd:=by
    refine List.ext_getElem (by rw[List.length_map,gM,c1_2]) fun k h1 h2=> ?_
    have:=congrArg Prod.snd (c1_3 k (by omega) (by omega))
    rw[←tE]at this
    simp only at this
    rw[List.getD_eq_getElem?_getD,List.getElem?_eq_getElem h1,List.getD_eq_getElem?_getD,List.getElem?_eq_getElem (by rw[gM];omega)]at this
    rw[List.getElem_map];exact this
   refine ax fL1 ?_
   all_goals try(apply ai;repeat' first|exact ah|apply aa|(apply ak;intro zb hc)|(apply aj;intro zb)|intro j')<;>try apply al
   all_goals(first|exact q1|exact q2|(rw[q1];done)|(rw[q2];done)|skip)
def Gn (p:List Int):Int:=li (jv vZ p)
theorem Jg {p:List Int} (h8:p.length≤8):∀v∈jv vZ p,0≤v∧v≤8:=fun v hv=>by
 rw[←o5]at hv
 obtain⟨y,hy,rfl⟩:=List.mem_map.1 hv
 have:=CS h8 y hy;omega
theorem IX {p:List Int} (h8:p.length≤8):0≤Gn p∧Gn p≤8:=⟨(jE (l:=jv vZ p)).1,p6 (by omega) fun x hx=>(Jg h8 x hx).2⟩
theorem Sl {l:List Int} (h:∀v∈l,0≤v) {k:Nat} (hk:k<l.length):li (l.take (k+1))=max (li (l.take k)) (l.getD k 0):=by
 rw[az (d:=0) hk,pZ (h _ (ar hk))]
theorem dS {m0:Bool} (p:List Int) (h8:p.length≤8):Fun Tryz.prog 90 [(.sl (.lent m0) (List.map (PV.int .i64) (p)))] [(.int .i64 (Gn p))]:=by
 have hb:=Jg h8
 have hl:=gQ (R:=vZ) (l:=p)
 rw[Gn]
 generalize hL:jv vZ p=L at*
 refine fO aR [2] Tryz.func90 ?_
 have cE1:= @qr
 refine ax @hL ?_
 all_goals try(apply ai;repeat' first|exact ah|apply aa|(apply ak;intro zb hc)|(apply aj;intro zb)|intro j')<;>try apply al
 refine an (fun ms1 S1=>∃(k:Nat),S1.e 5=.p (.int .i64 (li (L.take k)))∧OwnL (S1.e 13) S1.h S1.n (PV.int .i64) ((L).length) (L)∧S1.e 14=.p (.int .i64 (L.length))∧S1.e 15=.p (.int .i64 (k))∧(k≤L.length)∧ms1=L.length - k) ((fun(k:Nat)=>L.length - k) (0)) ?_ ⟨0,dC trivial ?_⟩
 all_goals try(apply ai;repeat' first|exact ah|apply aa|(apply ak;intro zb hc)|(apply aj;intro zb)|intro j')<;>try apply al
 rintro ms1 S1 ⟨k,h1_5,o1_13,h1_14,h1_15,c1_0,hm1⟩
 obtain⟨i1_13,h1_13,b1_13,l1_13⟩:=o1_13.out
 have ni1_13:=aG (x:=i1_13) (n:=S1.n)
 have fL1:=(aa h1_5 (aa h1_14 (aa h1_15 (aa h1_13 (aa b1_13 ni1_13)))))
 ·have m1:=(jE (l:=L.take k)).1
  have m2:=p6 (B:=8) (by omega) (l:=L.take k) fun x hx=>(hb x (List.mem_of_mem_take hx)).2
  by_cases hk:k<L.length
  ·have b2:=hb _ (ar (l:=L) (i:=k) (d:=0) hk)
   have e:=Sl (fun v hv=>(hb v hv).1) hk
   refine ax fL1 ?_
   all_goals try(apply ai;repeat' first|exact ah|apply aa|(apply ak;intro zb hc)|(apply aj;intro zb)|intro j')<;>try apply al
   focus
    refine am ((fun(k:Nat)=>L.length - k) (k+1)) (dC fL1 ?_) ⟨k+1,dC fL1 ?_⟩
    all_goals try(apply ai;repeat' first|exact ah|apply aa|(apply ak;intro zb hc)|(apply aj;intro zb)|intro j')<;>try apply al
   all_goals(first|(rw[e];done)|skip)
  ·have e:L.take k=L:=List.take_of_length_le (by omega)
   refine ax (aa fL1 @e) ?_
   all_goals try(apply ai;repeat' first|exact ah|apply aa|(apply ak;intro zb hc)|(apply aj;intro zb)|intro j')<;>try apply al
   all_goals(first|(rw[e];done)|skip)
def pr (p:List Int):Int:=if ae p=true then Gn p else -1
def qQ (p:List Int):Int:=if ae p=true then Gn p.reverse else -1
theorem f6 {m0:Bool} (p:List Int) (hl:p.length≤1048576):Fun Tryz.prog 45 [(.sl (.lent m0) (List.map (PV.int .i64) (p)))] [(.int .i64 (pr p))]:=by
 by_cases h:ae p=true
 ·have h8:=(aw h).1
  rw[pr,if_pos h]
  refine fO aR [2] Tryz.func45 ?_
  have cE1:= @ao;have cE2:= @dS
  refine ax @h ?_
  all_goals try(apply ai;repeat' first|exact ah|apply aa|(apply ak;intro zb hc)|(apply aj;intro zb)|intro j')<;>try apply al
 ·rw[pr,if_neg h]
  rw[Bool.not_eq_true]at h
  refine fO aR [2] Tryz.func45 ?_
  have cE1:= @ao;have cE2:= @dS
  refine ax @h ?_
  all_goals try(apply ai;repeat' first|exact ah|apply aa|(apply ak;intro zb hc)|(apply aj;intro zb)|intro j')<;>try apply al
theorem eM {m0:Bool} (p:List Int) (hl:p.length≤1048576):Fun Tryz.prog 46 [(.sl (.lent m0) (List.map (PV.int .i64) (p)))] [(.int .i64 (qQ p))]:=by
 by_cases h:ae p=true
 ·have h8:=(aw h).1
  have h9:p.reverse.length≤8:=by rw[List.length_reverse];exact h8
  rw[qQ,if_pos h]
  refine fO aR [2] Tryz.func46 ?_
  have cE1:= @ao;have cE2:= @fy;have cE3:= @dS
  refine ax @h ?_
  all_goals try(apply ai;repeat' first|exact ah|apply aa|(apply ak;intro zb hc)|(apply aj;intro zb)|intro j')<;>try apply al
 ·rw[qQ,if_neg h]
  rw[Bool.not_eq_true]at h
  refine fO aR [2] Tryz.func46 ?_
  have cE1:= @ao;have cE2:= @fy;have cE3:= @dS
  refine ax @h ?_
  all_goals try(apply ai;repeat' first|exact ah|apply aa|(apply ak;intro zb hc)|(apply aj;intro zb)|intro j')<;>try apply al
def qI (p E:List Int) (x:Int):Nat→Int
 |0=>1
 |j+1=>if p.getD j 0<x then max (qI p E x j) (E.getD j 0+1)else qI p E x j
def js (p:List Int):Nat→List Int
 |0=>[]
 |k+1=>js p k++[qI p (js p k) (p.getD k 0) k]
theorem tR {p:List Int}:∀{k:Nat},(js p k).length=k
 |0=>rfl
 |k+1=>by rw[js,List.length_append,tR];rfl
theorem vB {p E:List Int} {x:Int}:∀{j:Nat},1≤qI p E x j
 |0=>Int.le_refl _
 |j+1=>by have:=vB (p:=p) (E:=E) (x:=x) (j:=j);rw[qI];split<;>omega
theorem DL {p E:List Int} {x m:Int} (hm:2≤m):∀{j:Nat},m≤qI p E x j↔∃t,t<j∧p.getD t 0<x∧m≤E.getD t 0+1
 |0=>⟨fun h=>by rw[qI]at h;omega,fun⟨t,h,_⟩=>by omega⟩
 |j+1=>by
  have ih:=DL (p:=p) (E:=E) (x:=x) hm (j:=j)
  rw[qI]
  constructor
  ·intro h
   split at h
   ·rename_i g
    by_cases q:m≤qI p E x j
    ·obtain⟨t,t1,t2⟩:=ih.1 q;exact⟨t,by omega,t2⟩
    ·exact⟨j,by omega,g,by omega⟩
   ·obtain⟨t,t1,t2⟩:=ih.1 h;exact⟨t,by omega,t2⟩
  ·rintro⟨t,t1,t2,t3⟩
   by_cases e:t=j
   ·subst e;rw[if_pos t2];omega
   ·have:=ih.2 ⟨t,by omega,t2,t3⟩
    split<;>omega
theorem DK {p:List Int}:∀{k:Nat},k≤p.length→js p k=(jv sA (p.take k).reverse).reverse
 |0,_=>by simp[js,jv]
 |k+1,hk=>by
  have ih:=DK (p:=p) (k:=k) (by omega)
  rw[js,az (d:=0) (show k<p.length by omega),List.reverse_append,List.reverse_singleton,List.singleton_append,jv,List.reverse_cons,←ih]
  congr 2
  have hr:(jv sA (p.take k).reverse)=(js p k).reverse:=by rw[ih,List.reverse_reverse]
  have hE:=tR (p:=p) (k:=k)
  have hP:(p.take k).length=k:=by rw[List.length_take];omega
  rw[hr]
  have key:∀m:Int,2≤m→(m≤qI p (js p k) (p.getD k 0) k↔m≤Ij sA (p.getD k 0) ((p.take k).reverse.zip (js p k).reverse)):=fun m hm=>by
   rw[DL hm,Ij,xt hm]
   constructor
   ·rintro⟨t,t1,t2,t3⟩
    refine .inr ⟨(p.getD t 0,(js p k).getD t 0), ?_,by simpa[sA]using t2,t3⟩
    have hz:k - 1 - t<((p.take k).reverse.zip (js p k).reverse).length:=by rw[List.length_zip,List.length_reverse,List.length_reverse];omega
    have:((p.take k).reverse.zip (js p k).reverse)[k - 1 - t]=(p.getD t 0,(js p k).getD t 0):=by
     rw[List.getElem_zip,List.getElem_reverse,List.getElem_reverse]
     congr 1
     ·rw[List.getElem_take,List.getD_eq_getElem?_getD,List.getElem?_eq_getElem (by omega)]
      simp only[Option.getD_some];congr 1;omega
     ·rw[List.getD_eq_getElem?_getD,List.getElem?_eq_getElem (by omega)]
      simp only[Option.getD_some];congr 1;omega
    rw[←this];exact List.getElem_mem hz
   ·rintro(h|⟨y,h1,h2,h3⟩)
    ·omega
    ·obtain⟨i,hi,e⟩:=List.getElem_of_mem h1
     rw[List.length_zip,List.length_reverse,List.length_reverse]at hi
     rw[List.getElem_zip,List.getElem_reverse,List.getElem_reverse]at e
     refine⟨k - 1 - i,by omega, ?_, ?_⟩
     ·have a1:p.getD (k - 1 - i) 0=y.1:=by
       rw[←e,List.getElem_take,List.getD_eq_getElem?_getD,List.getElem?_eq_getElem (by omega)]
       simp only[Option.getD_some];congr 1;omega
      rw[a1];simpa[sA]using h2
     ·have a2:(js p k).getD (k - 1 - i) 0=y.2:=by
       rw[←e,List.getD_eq_getElem?_getD,List.getElem?_eq_getElem (by omega)]
       simp only[Option.getD_some];congr 1;omega
      rw[a2];exact h3
  have h1:=vB (p:=p) (E:=js p k) (x:=p.getD k 0) (j:=k)
  have h2:=D1 (R:=sA) (x:=p.getD k 0) (L:=(p.take k).reverse.zip (js p k).reverse) (v:=1)
  have k1:=key (qI p (js p k) (p.getD k 0) k)
  have k2:=key (Ij sA (p.getD k 0) ((p.take k).reverse.zip (js p k).reverse))
  unfold Ij at k1 k2 ⊢
  omega
theorem UK {p:List Int} (hp:p.Nodup):li (js p p.length)=Gn p:=by
 rw[DK (Nat.le_refl _),List.take_length,Gn,JI hp]
 have key:∀m:Nat,(m:Int)+1≤li (jv sA p.reverse).reverse↔(m:Int)+1≤li (jv sA p.reverse):=fun m=>by
  rw[tz,tz];simp only[List.mem_reverse]
 have h1:=(jE (l:=(jv sA p.reverse).reverse)).1
 have h2:=(jE (l:=jv sA p.reverse)).1
 have k1:=key ((li (jv sA p.reverse).reverse).toNat - 1)
 have k2:=key ((li (jv sA p.reverse)).toNat - 1)
 omega
theorem tS {p E:List Int} {x:Int} {k:Nat} (h:∀t,E.getD t 0≤k):∀{j:Nat},qI p E x j≤k+1
 |0=>by rw[qI];omega
 |j+1=>by
  have:=tS (p:=p) (x:=x) h (j:=j)
  have:=h j
  rw[qI];split<;>omega
theorem Ja {p:List Int}:∀{k:Nat},(∀v∈js p k,1≤v∧v≤k)
 |0=>by simp[js]
 |k+1=>by
  have ih:=Ja (p:=p) (k:=k)
  have hE:∀t,(js p k).getD t 0≤k:=fun t=>by
   by_cases g:t<(js p k).length
   ·exact(ih _ (ar g)).2
   ·rw[List.getD_eq_getElem?_getD,List.getElem?_eq_none (by omega)];simp
  intro v hv
  rw[js]at hv
  rcases List.mem_append.1 hv with g|g
  ·have:=ih v g;omega
  ·rw[List.mem_singleton]at g;subst g
   have h1:=vB (p:=p) (E:=js p k) (x:=p.getD k 0) (j:=k)
   have h2:=tS (p:=p) (x:=p.getD k 0) hE (j:=k)
   omega
theorem gE {m0:Bool} (p:List Int) (h8:p.length≤8) (hn:p.Nodup):Fun Tryz.prog 69 [(.sl (.lent m0) (List.map (PV.int .i64) (p)))] [(.int .i64 (Gn p))]:=by
 rw[←UK hn]
 refine fO aR [2] Tryz.func69 ?_
 have cE1:= @gG
 refine ax trivial ?_
 all_goals try(apply ai;repeat' first|exact ah|apply aa|(apply ak;intro zb hc)|(apply aj;intro zb)|intro j')<;>try apply al
 refine an (fun ms1 S1=>∃(k:Nat),S1.e 0=.p (.sl (.lent m0) (List.map (PV.int .i64) (p)))∧S1.e 3=.p (.int .i64 (li (js p k)))∧OwnL (S1.e 4) S1.h S1.n (PV.int .i64) ((js p k).length) (js p k)∧S1.e 5=.p (.int .i64 (k))∧(k≤p.length)∧ms1=p.length - k) ((fun(k:Nat)=>p.length - k) (0)) ?_ ⟨0,dC trivial ?_⟩
 all_goals try(apply ai;repeat' first|exact ah|apply aa|(apply ak;intro zb hc)|(apply aj;intro zb)|intro j')<;>try apply al
 rintro ms1 S1 ⟨k,h1_0,h1_3,o1_4,h1_5,c1_0,hm1⟩
 obtain⟨i1_4,h1_4,b1_4,l1_4⟩:=o1_4.out
 have ni1_4:=aG (x:=i1_4) (n:=S1.n)
 have fL1:=(aa h1_0 (aa h1_3 (aa h1_5 (aa h1_4 (aa b1_4 ni1_4)))))
 ·have eb:=Ja (p:=p) (k:=k)
  have el:=tR (p:=p) (k:=k)
  have m1:=(jE (l:=js p k)).1
  have m2:=p6 (B:=8) (by omega) (l:=js p k) fun x hx=>by have:=eb x hx;omega
  have hE:∀t,(js p k).getD t 0≤k:=fun t=>by
   by_cases g:t<(js p k).length
   ·exact(eb _ (ar g)).2
   ·rw[List.getD_eq_getElem?_getD,List.getElem?_eq_none (by omega)];simp
  by_cases hk:k<p.length
  ·have e1:js p (k+1)=js p k++[qI p (js p k) (p.getD k 0) k]:=rfl
   have q1:=vB (p:=p) (E:=js p k) (x:=p.getD k 0) (j:=k)
   have q2:=tS (p:=p) (x:=p.getD k 0) hE (j:=k)
   have e2:li (js p (k+1))=max (li (js p k)) (qI p (js p k) (p.getD k 0) k):=by rw[e1,pZ (by omega)]
   generalize hD:js p k=E at*
   refine ax fL1 ?_
   all_goals try(apply ai;repeat' first|exact ah|apply aa|(apply ak;intro zb hc)|(apply aj;intro zb)|intro j')<;>try apply al
   refine an (fun ms2 S2=>∃(j:Nat),S2.e 0=.p (.sl (.lent m0) (List.map (PV.int .i64) (p)))∧S2.e 3=.p (.int .i64 (li E))∧OwnL (S2.e 4) S2.h S2.n (PV.int .i64) ((E).length) (E)∧S2.e 5=.p (.int .i64 (k))∧S2.e 6=.p (.int .i64 (qI p E (p.getD k 0) j))∧S2.e 7=.p (.int .i64 (j))∧(j≤k)∧S1.n≤S2.n∧ms2=k - j) ((fun(j:Nat)=>k - j) (0)) ?_ ⟨0,dC fL1 ?_⟩
   all_goals try(apply ai;repeat' first|exact ah|apply aa|(apply ak;intro zb hc)|(apply aj;intro zb)|intro j')<;>try apply al
   rintro ms2 S2 ⟨j,h2_0,h2_3,o2_4,h2_5,h2_6,h2_7,c2_0,u2_0,hm2⟩
   obtain⟨i2_4,h2_4,b2_4,l2_4⟩:=o2_4.out
   have ni2_4:=aG (x:=i2_4) (n:=S2.n)
   have fL2:=(aa h2_0 (aa h2_3 (aa h2_5 (aa h2_6 (aa h2_7 (aa h2_4 (aa b2_4 ni2_4)))))))
   ·have r1:=vB (p:=p) (E:=E) (x:=p.getD k 0) (j:=j)
    have r2:=tS (p:=p) (x:=p.getD k 0) hE (j:=j)
    by_cases hj:j<k
    ·have b2:=eb _ (ar (l:=E) (i:=j) (d:=0) (by omega))
     by_cases hv:p.getD j 0<p.getD k 0
     ·have e3:qI p E (p.getD k 0) (j+1)=max (qI p E (p.getD k 0) j) (E.getD j 0+1):=by rw[qI,if_pos hv]
      refine ax (aa fL2 @hv) ?_
      all_goals try(apply ai;repeat' first|exact ah|apply aa|(apply ak;intro zb hc)|(apply aj;intro zb)|intro j')<;>try apply al
      focus
       refine am ((fun(j:Nat)=>k - j) (j+1)) (dC fL2 ?_) ⟨j+1,dC fL2 ?_⟩
       all_goals try(apply ai;repeat' first|exact ah|apply aa|(apply ak;intro zb hc)|(apply aj;intro zb)|intro j')<;>try apply al
      all_goals(first|(rw[e3];done)|skip)
     ·have e3:qI p E (p.getD k 0) (j+1)=qI p E (p.getD k 0) j:=by rw[qI,if_neg hv]
      have hv':(p.getD j 0<p.getD k 0)=False:=eq_false hv
      refine ax (aa fL2 @hv') ?_
      all_goals try(apply ai;repeat' first|exact ah|apply aa|(apply ak;intro zb hc)|(apply aj;intro zb)|intro j')<;>try apply al
      focus
       refine am ((fun(j:Nat)=>k - j) (j+1)) (dC fL2 ?_) ⟨j+1,dC fL2 ?_⟩
       all_goals try(apply ai;repeat' first|exact ah|apply aa|(apply ak;intro zb hc)|(apply aj;intro zb)|intro j')<;>try apply al
      all_goals(first|(rw[e3];done)|skip)
    ·obtain rfl:j=k:=by omega
     refine ax fL2 ?_
     all_goals try(apply ai;repeat' first|exact ah|apply aa|(apply ak;intro zb hc)|(apply aj;intro zb)|intro j')<;>try apply al
     focus
      refine am ((fun(k:Nat)=>p.length - k) (j+1)) (dC fL2 ?_) ⟨j+1,dC fL2 ?_⟩
      all_goals try(apply ai;repeat' first|exact ah|apply aa|(apply ak;intro zb hc)|(apply aj;intro zb)|intro j')<;>try apply al
     all_goals(first|(rw[e1];done)|(rw[e2];done)|(rw[e1,List.length_append];rfl)|skip)
  ·obtain rfl:k=p.length:=by omega
   refine ax fL1 ?_
   all_goals try(apply ai;repeat' first|exact ah|apply aa|(apply ak;intro zb hc)|(apply aj;intro zb)|intro j')<;>try apply al
theorem xY {p:List Int} (h:ae p=true):p.Nodup:=(permB_iff.1 (aw h).2).2
theorem fT {m0:Bool} (p:List Int) (hl:p.length≤1048576):Fun Tryz.prog 31 [(.sl (.lent m0) (List.map (PV.int .i64) (p)))] [(.int .i64 (pr p))]:=by
 by_cases h:ae p=true
 ·have h8:=(aw h).1
  have hn:=xY h
  rw[pr,if_pos h]
  refine fO aR [2] Tryz.func31 ?_
  have cE1:= @aq;have cE2:= @gE
  refine ax @h ?_
  all_goals try(apply ai;repeat' first|exact ah|apply aa|(apply ak;intro zb hc)|(apply aj;intro zb)|intro j')<;>try apply al
 ·rw[pr,if_neg h]
  rw[Bool.not_eq_true]at h
  refine fO aR [2] Tryz.func31 ?_
  have cE1:= @aq;have cE2:= @gE
  refine ax @h ?_
  all_goals try(apply ai;repeat' first|exact ah|apply aa|(apply ak;intro zb hc)|(apply aj;intro zb)|intro j')<;>try apply al
theorem eI {m0:Bool} (p:List Int) (hl:p.length≤1048576):Fun Tryz.prog 32 [(.sl (.lent m0) (List.map (PV.int .i64) (p)))] [(.int .i64 (qQ p))]:=by
 by_cases h:ae p=true
 ·have h8:=(aw h).1
  have h9:p.reverse.length≤8:=by rw[List.length_reverse];exact h8
  have hn:p.reverse.Nodup:=(List.reverse_perm p).nodup_iff.2 (xY h)
  rw[qQ,if_pos h]
  refine fO aR [2] Tryz.func32 ?_
  have cE1:= @aq;have cE2:= @aT;have cE3:= @gE
  refine ax @h ?_
  all_goals try(apply ai;repeat' first|exact ah|apply aa|(apply ak;intro zb hc)|(apply aj;intro zb)|intro j')<;>try apply al
 ·rw[qQ,if_neg h]
  rw[Bool.not_eq_true]at h
  refine fO aR [2] Tryz.func32 ?_
  have cE1:= @aq;have cE2:= @aT;have cE3:= @gE
  refine ax @h ?_
  all_goals try(apply ai;repeat' first|exact ah|apply aa|(apply ak;intro zb hc)|(apply aj;intro zb)|intro j')<;>try apply al
def NL (q:List (List Int)):PV:=.sl (.lent false) (List.map (bt false) q)
theorem NK {q:List (List Int)}:NL q=.sl (.lent false) (List.map (bt false) q):=_root_.id rfl
theorem LJ {l:List (List (List Int))} {x:List (List Int)} {r:List PV}:List.map NL l++(PV.sl (.lent false) (List.map (bt false) x)::r)=List.map NL (l++[x])++r:=by simp[NL]
instance:NDf NL:=⟨by intro a rows h;cases h⟩
theorem Lb {l:List (List Int)}:noRo (NL l)=true:=cy (fun _=>Cr) l
theorem FS {l:List (List (List Int))}:noRoL (l.map NL)=true:=cy (fun _=>Lb) l
attribute [go_sem] NK LJ FS
theorem iK {m0:Bool} (p:List Int) (hl:p.length≤1048576) (hn:ae p=false):Fun Tryz.prog 126 [(.sl (.lent m0) (List.map (PV.int .i64) (p)))] [(.sl .own (List.map (bt false) ([])))]:=by
 refine fO aR [2] Tryz.func126 ?_
 have cE1:= @gG;have cE2:= @aq;have cE3:= @fQ
 refine ax @hn ?_
 all_goals try(apply ai;repeat' first|exact ah|apply aa|(apply ak;intro zb hc)|(apply aj;intro zb)|intro j')<;>try apply al
def Bz (l:List Int):Bool:=(List.range l.length).all fun i=>decide (i=0)||decide (l.getD (i - 1) 0≤l.getD i 0)
theorem srtB_iff {l:List Int}:Bz l=true↔∀i,i<l.length→0<i→l.getD (i - 1) 0≤l.getD i 0:=by
 simp only[Bz,List.all_eq_true,List.mem_range,Bool.or_eq_true,decide_eq_true_eq]
 constructor
 ·intro h i hi h0;rcases h i hi with h|h
  ·omega
  ·exact h
 ·intro h i hi
  by_cases h0:i=0
  ·exact .inl h0
  ·exact .inr (h i hi (by omega))
theorem qV (x:Int) (y:Int):Fun Tryz.prog 199 [(.int .i64 (x)),(.int .i64 (y))] [(.bool (decide (x<y)))]:=by
 refine fO aR [4] Tryz.func199 ?_
 have cE1:= @jR
 refine ax trivial ?_
 all_goals try(apply ai;repeat' first|exact ah|apply aa|(apply ak;intro zb hc)|(apply aj;intro zb)|intro j')<;>try apply al
theorem iz {m0:Bool} (l:List Int) (hl:l.length≤1048576):Fun Tryz.prog 172 [(.sl (.lent m0) (List.map (PV.int .i64) (l)))] [(.bool (Bz l))]:=by
 refine fO aR [2] Tryz.func172 ?_
 have cE1:= @qV;have cD1:=gY [false,false,false,false,false,false,false,false,false,true] []
 refine ax trivial ?_
 all_goals try(apply ai;repeat' first|exact ah|apply aa|(apply ak;intro zb hc)|(apply aj;intro zb)|intro j')<;>try apply al
 refine an (fun ms1 S1=>∃(k:Nat),S1.e 0=.p (.sl (.lent m0) (List.map (PV.int .i64) (l)))∧S1.e 3=.p (.int .i64 (k - 1))∧(k≤l.length)∧(∀i,k≤i→i<l.length→0<i→l.getD (i - 1) 0≤l.getD i 0)∧ms1=k) ((fun(k:Nat)=>k) (l.length)) ?_ ⟨l.length,jK trivial ?_⟩
 all_goals try(apply ai;repeat' first|exact ah|apply aa|(apply ak;intro zb hc)|(apply aj;intro zb)|intro j')<;>try apply al
 rintro ms1 S1 ⟨k,h1_0,h1_3,c1_0,c1_1,hm1⟩
 have fL1:=(aa h1_0 h1_3)
 have e1:((k:Int) - 1).toNat=k - 1:=by omega
 have e2:((k:Int) - 1 - 1).toNat=k - 1 - 1:=by omega
 refine ax fL1 ?_
 all_goals try(apply ai;repeat' first|exact ah|apply aa|(apply ak;intro zb hc)|(apply aj;intro zb)|intro j')<;>try apply al
 ·refine(Bool.eq_false_iff.2 fun h=> ?_).symm
  have:=srtB_iff.1 h (k - 1) (by omega) (by omega)
  rw[e1,e2]at hc;omega
 ·focus
   refine am ((fun(k:Nat)=>k) (k-1)) (dC fL1 ?_) ⟨k-1,dC fL1 ?_⟩
   all_goals try(apply ai;repeat' first|exact ah|apply aa|(apply ak;intro zb hc)|(apply aj;intro zb)|intro j')<;>try apply al
  intro i h1 h2 h3
  by_cases h4:i=k - 1
  ·subst h4;rw[e1,e2]at hc;exact hc
  ·exact c1_1 i (by omega) h2 h3
 ·refine(srtB_iff.2 fun i h1 h2=>c1_1 i (by omega) h1 h2).symm
def y7 (p:List Int):Bool:=decide (p=nL p.length)
def Ew (p:List Int):Bool:=decide (p.reverse=nL p.length)
theorem wV {n i:Nat} (h:i<n):(nL n).getD i 0=(i:Int)+1:=by
 rw[List.getD_eq_getElem?_getD,nL,List.getElem?_map,List.getElem?_range h];rfl
theorem By {p:List Int} (hp:aU p=true):Bz p=y7 p:=by
 obtain⟨h1,h2⟩:=permB_iff.1 hp
 rw[Bool.eq_iff_iff,srtB_iff,y7,decide_eq_true_iff]
 constructor
 ·intro hs
  have lt:∀i,i+1<p.length→p.getD i 0<p.getD (i+1) 0:=fun i hi=>by
   have a:=hs (i+1) hi (by omega)
   rw[Nat.add_sub_cancel]at a
   have b:p.getD i 0≠p.getD (i+1) 0:=fun e=>by have:=Cd hp (by omega) hi e;omega
   omega
  have lo:∀i,i<p.length→(i:Int)+1≤p.getD i 0:=fun i=>by
   induction i with
   |zero=>intro hi;have:=(h1 _ (ar (d:=0) hi)).1;omega
   |succ i ih=>intro hi;have:=ih (by omega);have:=lt i hi;omega
  have hi:∀d i,i+d+1=p.length→p.getD i 0≤(i:Int)+1:=fun d=>by
   induction d with
   |zero=>intro i h;have:=(h1 _ (ar (d:=0) (show i<p.length by omega))).2;omega
   |succ d ih=>intro i h;have:=ih (i+1) (by omega);have:=lt i (by omega);omega
  refine List.ext_getElem (by rw[f7]) fun i a b=> ?_
  have x1:=lo i a
  have x2:=hi (p.length - i - 1) i (by omega)
  have x3:=wV a
  rw[List.getD_eq_getElem?_getD,List.getElem?_eq_getElem a]at x1 x2
  rw[List.getD_eq_getElem?_getD,List.getElem?_eq_getElem b]at x3
  simp at x1 x2 x3;omega
 ·intro e i h3 h4
  have x1:=wV (n:=p.length) (i:=i - 1) (by omega)
  have x2:=wV (n:=p.length) (i:=i) h3
  rw[←e]at x1 x2;omega
theorem dm {m0:Bool} (p:List Int) (hp:ae p=true):Fun Tryz.prog 134 [(.sl (.lent m0) (List.map (PV.int .i64) (p)))] [(.bool (y7 p))]:=by
 refine fO aR [2] Tryz.func134 ?_
 have cE1:= @iz
 obtain⟨h8,hq⟩:p.length≤8∧aU p=true:=by simpa[ae]using hp
 refine ax trivial ?_
 all_goals try(apply ai;repeat' first|exact ah|apply aa|(apply ak;intro zb hc)|(apply aj;intro zb)|intro j')<;>try apply al
 all_goals exact By hq
theorem NP {p:List Int}:decide (p=(nL p.length).reverse)=Ew p:=by
 rw[Ew,decide_eq_decide]
 exact⟨fun h=>by rw[h,List.reverse_reverse,List.length_reverse,f7],fun h=>by rw[←h,List.reverse_reverse]⟩
theorem nI {m0:Bool} (p:List Int) (hp:ae p=true):Fun Tryz.prog 142 [(.sl (.lent m0) (List.map (PV.int .i64) (p)))] [(.bool (Ew p))]:=by
 refine fO aR [2] Tryz.func142 ?_
 have cE1:= @oJ;have cE2:= @fy;have cE3:= @br
 obtain⟨h8,hq⟩:p.length≤8∧aU p=true:=by simpa[ae]using hp
 have e1:(nL p.length).length=p.length:=f7
 have e2:(nL p.length).reverse.length=p.length:=by rw[List.length_reverse,f7]
 have e3:List.take p.length (nL p.length)=nL p.length:=List.take_of_length_le (by omega)
 have e4:List.take p.length (nL p.length).reverse=(nL p.length).reverse:=List.take_of_length_le (by omega)
 refine ax (aa @e1 (aa @e2 (aa @e3 @e4))) ?_
 all_goals try(apply ai;repeat' first|exact ah|apply aa|(apply ak;intro zb hc)|(apply aj;intro zb)|intro j')<;>try apply al
 all_goals exact NP
theorem cY {m0:Bool} (p:List Int) (hp:p.length≤8):Fun Tryz.prog 71 [(.sl (.lent m0) (List.map (PV.int .i64) (p)))] [(.bool (y7 p))]:=by
 refine fO aR [2] Tryz.func71 ?_
 have cE1:= @ba;have cE2:= @bo
 have e1:(nL p.length).length=p.length:=f7
 have e3:List.take p.length (nL p.length)=nL p.length:=List.take_of_length_le (by omega)
 refine ax (aa @e1 @e3) ?_
 all_goals try(apply ai;repeat' first|exact ah|apply aa|(apply ak;intro zb hc)|(apply aj;intro zb)|intro j')<;>try apply al
 all_goals rfl
theorem sQ {a b:Int}:∀{l:List Int},l.Nodup→[a,b].Sublist l→[b,a].Sublist l→False
 |[],_,h,_=>by cases h
 |x::l,hn,h1,h2=>by
  obtain⟨n1,n2⟩:=List.nodup_cons.1 hn
  rcases List.sublist_cons_iff.1 h1 with g1|⟨r1,e1,g1⟩
  ·rcases List.sublist_cons_iff.1 h2 with g2|⟨r2,e2,g2⟩
   ·exact sQ n2 g1 g2
   ·cases e2;exact n1 (g1.subset (by simp))
  ·cases e1
   rcases List.sublist_cons_iff.1 h2 with g2|⟨r2,e2,g2⟩
   ·exact n1 (g2.subset (by simp))
   ·cases e2;exact n1 (g1.subset (by simp))
theorem Be {a b:Int} (ne:a≠b):∀{l:List Int},a∈l→b∈l→[a,b].Sublist l∨[b,a].Sublist l
 |[],h,_=>by cases h
 |x::l,ha,hb=>by
  rcases List.mem_cons.1 ha with e1|g1
  ·rcases List.mem_cons.1 hb with e2|g2
   ·exact absurd (e1.trans e2.symm) ne
   ·subst e1;exact .inl ((List.singleton_sublist.2 g2).cons_cons _)
  ·rcases List.mem_cons.1 hb with e2|g2
   ·subst e2;exact .inr ((List.singleton_sublist.2 g1).cons_cons _)
   ·rcases Be ne g1 g2 with h|h
    ·exact .inl (h.cons _)
    ·exact .inr (h.cons _)
theorem DV {α:Type} {f g:α→Bool}:∀{l:List α},(∀x∈l,f x=true→g x=true)→(∃x∈l,f x=false∧g x=true)→l.countP f<l.countP g
 |[],_,⟨x,h,_⟩=>by cases h
 |y::l,h,⟨x,hx,h1,h2⟩=>by
  have hm:l.countP f≤l.countP g:=List.countP_mono_left fun x hx=>h x (List.mem_cons_of_mem _ hx)
  rw[List.countP_cons,List.countP_cons]
  rcases List.mem_cons.1 hx with e|g1
  ·subst e;rw[h1,h2];simp;omega
  ·have:=DV (fun x hx=>h x (List.mem_cons_of_mem _ hx)) ⟨x,g1,h1,h2⟩
   have hy:=h y List.mem_cons_self
   cases hf:f y with
   |true=>rw[hy hf];simp;omega
   |false=>cases g y<;>simp<;>omega
def Ca (n:Nat):List (Nat×Nat):=(List.range n).flatMap fun i=>(List.range n).map fun j=>(i,j)
def v8 (p:List Int):Nat:=(Ca p.length).countP fun x=>decide (x.1<x.2)&&decide ([(x.2:Int)+1,(x.1:Int)+1].Sublist p)
theorem prs2_mem {n i j:Nat}:(i,j)∈Ca n↔i<n∧j<n:=by
 unfold Ca
 simp only[List.mem_flatMap,List.mem_map,List.mem_range,Prod.mk.injEq]
 constructor
 ·rintro⟨a,h1,b,h2,e1,e2⟩;omega
 ·rintro⟨h1,h2⟩;exact⟨i,h1,j,h2,rfl,rfl⟩
theorem Do {α β:Type} {f:α→List β} {n:Nat} (h:∀x,(f x).length=n):∀{l:List α},(l.flatMap f).length=l.length*n
 |[]=>by simp
 |x::l=>by rw[List.flatMap_cons,List.length_append,h,Do h,List.length_cons,Nat.succ_mul];omega
theorem B9 {n:Nat}:(Ca n).length=n*n:=by
 unfold Ca;rw[Do (n:=n) (fun x=>by simp),List.length_range]
theorem wJ {p:List Int}:v8 p≤p.length*p.length:=by rw[←B9];exact List.countP_le_length
theorem CQ {p q:List Int} (hp:aU p=true) (hq:aU q=true) (hl:q.length=p.length) (h1:∀a b,a<b→[a,b].Sublist p→[a,b].Sublist q)
  (h2:∃a b,a<b∧[b,a].Sublist p∧[a,b].Sublist q):v8 q<v8 p:=by
 obtain⟨p1,p2⟩:=permB_iff.1 hp
 obtain⟨q1,q2⟩:=permB_iff.1 hq
 unfold v8
 rw[hl]
 refine DV (fun x hx hc=> ?_) ?_
 ·obtain⟨i,j⟩:=x
  obtain⟨x1,x2⟩:=prs2_mem.1 hx
  simp only[Bool.and_eq_true,decide_eq_true_eq]at hc ⊢
  refine⟨hc.1, ?_⟩
  rcases Be (a:=(i:Int)+1) (b:=(j:Int)+1) (l:=p) (by omega) (uG hp (by omega) (by omega)) (uG hp (by omega) (by omega))with g|g
  ·exact absurd (h1 _ _ (by omega) g) fun g'=>sQ q2 g' hc.2
  ·exact g
 ·obtain⟨a,b,ab,s1,s2⟩:=h2
  have ha:=p1 a (s1.subset (by simp))
  have hb:=p1 b (s1.subset (by simp))
  refine⟨((a - 1).toNat,(b - 1).toNat),prs2_mem.2 ⟨by omega,by omega⟩, ?_, ?_⟩
  ·rw[Bool.and_eq_false_iff];right
   rw[decide_eq_false_iff_not]
   simp only
   rw[show(((b - 1).toNat:Nat):Int)+1=b by omega,show(((a - 1).toNat:Nat):Int)+1=a by omega]
   exact fun g=>sQ q2 s2 g
  ·simp only[Bool.and_eq_true,decide_eq_true_eq]
   rw[show(((b - 1).toNat:Nat):Int)+1=b by omega,show(((a - 1).toNat:Nat):Int)+1=a by omega]
   exact⟨by omega,s1⟩
theorem Cw {p:List Int} (hp:aU p=true) (h:y7 p=false):∃X Y a b,a<b∧p=X++b::a::Y:=by
 have h1:¬Bz p=true:=by rw[By hp,h];decide
 rw[srtB_iff]at h1
 obtain⟨i,h2⟩:=Classical.not_forall.1 h1
 obtain⟨hi,h3⟩:=Classical.not_forall.1 h2
 obtain⟨hi0,h4⟩:=Classical.not_forall.1 h3
 obtain⟨k,rfl⟩:∃k,i=k+1:=⟨i - 1,by omega⟩
 refine⟨p.take k,p.drop (k+1+1),p.getD (k+1) 0,p.getD k 0,by simp only[Nat.add_sub_cancel]at h4;omega, ?_⟩
 rw[←aY hi,←aY (by omega),List.take_append_drop]
def rl:List Int→List Int→List Int
 |[],st=>st
 |x::xs,st=>st.takeWhile (fun y=>decide (y<x))++rl xs (x::st.dropWhile (fun y=>decide (y<x)))
theorem mw:∀{xs st:List Int},(rl xs st).Perm (xs++st)
 |[],st=>List.Perm.refl _
 |x::xs,st=>by
  rw[rl]
  refine(List.Perm.append_left _ (mw (xs:=xs))).trans ?_
  have h:(st.takeWhile (fun y=>decide (y<x))++(xs++x::st.dropWhile (fun y=>decide (y<x)))).Perm (x::(xs++(st.takeWhile (fun y=>decide (y<x))++st.dropWhile (fun y=>decide (y<x))))):=by
   refine(List.Perm.append_left _ List.perm_middle).trans ?_
   refine List.perm_middle.trans (List.Perm.cons _ ?_)
   rw[←List.append_assoc,←List.append_assoc]
   exact List.Perm.append_right _ List.perm_append_comm
  rw[List.takeWhile_append_dropWhile]at h
  exact h
theorem sZ {a b:Int} {A B:List Int} (ha:a∈A) (hb:b∈B):[a,b].Sublist (A++B):=by
 have:=(List.singleton_sublist.2 ha).append (List.singleton_sublist.2 hb)
 exact this
theorem BG {a b:Int}:∀{xs st:List Int},[a,b].Sublist st→[a,b].Sublist (rl xs st)
 |[],_,h=>h
 |x::xs,st,h=>by
  rw[rl]
  have e:st=st.takeWhile (fun y=>decide (y<x))++st.dropWhile (fun y=>decide (y<x)):=List.takeWhile_append_dropWhile.symm
  rw[e]at h
  obtain⟨l1,l2,e1,s1,s2⟩:=List.sublist_append_iff.1 h
  match l1,e1 with
  |[],e1=>
   simp only[List.nil_append]at e1;subst e1
   exact(BG (xs:=xs) (s2.cons _)).trans (List.sublist_append_right _ _)
  |[y],e1=>
   simp only[List.singleton_append,List.cons.injEq]at e1
   obtain⟨rfl,rfl⟩:=e1
   refine sZ (s1.subset (by simp)) ((mw (xs:=xs)).mem_iff.2 ?_)
   have:=s2.subset (show b∈[b]by simp)
   simp[this]
  |[y,z],e1=>
   simp only[List.cons_append,List.nil_append,List.cons.injEq]at e1
   obtain⟨rfl,rfl,_⟩:=e1
   exact s1.trans (List.sublist_append_left _ _)
  |_::_::_::_,e1=>simp at e1
theorem BH {a b:Int} (ab:a<b):∀{xs st:List Int},st.Pairwise (·≤·)→a∈st→b∈xs→[a,b].Sublist (rl xs st)
 |[],_,_,_,h=>by cases h
 |x::xs,st,hs,ha,hb=>by
  rw[rl]
  have e:st=st.takeWhile (fun y=>decide (y<x))++st.dropWhile (fun y=>decide (y<x)):=List.takeWhile_append_dropWhile.symm
  have hs':=hs
  rw[e]at ha hs'
  by_cases hm:a∈st.takeWhile (fun y=>decide (y<x))
  ·refine sZ hm ((mw (xs:=xs)).mem_iff.2 ?_)
   rcases List.mem_cons.1 hb with e'|g
   ·subst e';simp
   ·simp[g]
  ·have hd:a∈st.dropWhile (fun y=>decide (y<x)):=by
    rcases List.mem_append.1 ha with g|g
    ·exact absurd g hm
    ·exact g
   have hge:∀y∈st.dropWhile (fun y=>decide (y<x)),x≤y:=by
    have h2:=(List.pairwise_append.1 hs').2.1
    intro y hy
    cases hD:st.dropWhile (fun y=>decide (y<x))with
    |nil=>rw[hD]at hy;cases hy
    |cons z zs=>
     have hz:¬z<x:=by
      have:=List.head_dropWhile_not (fun y=>decide (y<x)) (l:=st) (by rw[hD];simp)
      simp only[hD,List.head_cons]at this
      simpa using this
     rw[hD]at hy h2
     rcases List.mem_cons.1 hy with e'|g
     ·omega
     ·have:=(List.pairwise_cons.1 h2).1 y g;omega
   have hx:=hge a hd
   rcases List.mem_cons.1 hb with e'|g
   ·omega
   ·exact(BH ab (List.pairwise_cons.2 ⟨hge,(List.pairwise_append.1 hs').2.1⟩) (by simp[hd]) g).trans (List.sublist_append_right _ _)
theorem ul {x:Int} {st:List Int} (hs:st.Pairwise (·≤·)):(x::st.dropWhile (fun y=>decide (y<x))).Pairwise (·≤·):=by
 have hs':=hs
 rw[show st=st.takeWhile (fun y=>decide (y<x))++st.dropWhile (fun y=>decide (y<x))from List.takeWhile_append_dropWhile.symm]at hs'
 have h2:=(List.pairwise_append.1 hs').2.1
 refine List.pairwise_cons.2 ⟨fun y hy=> ?_,h2⟩
 cases hD:st.dropWhile (fun y=>decide (y<x))with
 |nil=>rw[hD]at hy;cases hy
 |cons z zs=>
  have hz:¬z<x:=by
   have:=List.head_dropWhile_not (fun y=>decide (y<x)) (l:=st) (by rw[hD];simp)
   simp only[hD,List.head_cons]at this
   simpa using this
  rw[hD]at hy h2
  rcases List.mem_cons.1 hy with e'|g
  ·omega
  ·have:=(List.pairwise_cons.1 h2).1 y g;omega
theorem BI {a b:Int} (ab:a<b):∀{xs st:List Int},st.Pairwise (·≤·)→[a,b].Sublist xs→[a,b].Sublist (rl xs st)
 |[],_,_,h=>by cases h
 |x::xs,st,hs,h=>by
  rw[rl]
  refine List.Sublist.trans ?_ (List.sublist_append_right _ _)
  rcases List.sublist_cons_iff.1 h with g|⟨r,e,g⟩
  ·exact BI ab (ul hs) g
  ·cases e
   exact BH ab (ul hs) (by simp) (g.subset (by simp))
theorem um {a b:Int} (ab:a<b) {Y:List Int}:∀{X st:List Int},[a,b].Sublist (rl (X++b::a::Y) st)
 |[],st=>by
  rw[List.nil_append,rl,rl]
  have e:(b::st.dropWhile (fun y=>decide (y<b))).dropWhile (fun y=>decide (y<a))=b::st.dropWhile (fun y=>decide (y<b)):=by
   rw[List.dropWhile_cons,if_neg (by simp;omega)]
  rw[e]
  refine List.Sublist.trans ?_ (List.sublist_append_right _ _)
  refine List.Sublist.trans ?_ (List.sublist_append_right _ _)
  exact BG (((List.nil_sublist _).cons_cons b).cons_cons a)
 |x::X,st=>by
  rw[List.cons_append,rl]
  exact(um ab (X:=X)).trans (List.sublist_append_right _ _)
theorem xX {p q:List Int} (hp:aU p=true) (h:q.Perm p):aU q=true:=by
 obtain⟨h1,h2⟩:=permB_iff.1 hp
 exact permB_iff.2 ⟨fun v hv=>by rw[h.length_eq];exact h1 v (h.mem_iff.1 hv),h.nodup_iff.2 h2⟩
def nW (p:List Int):List Int:=rl p []
theorem BJ {p:List Int} (hp:aU p=true):aU (nW p)=true∧(nW p).length=p.length∧(y7 p=false→v8 (nW p)<v8 p):=by
 have h:=mw (xs:=p) (st:=[])
 rw[List.append_nil]at h
 have hq:=xX hp h
 refine⟨hq,h.length_eq,fun hu=>CQ hp hq h.length_eq (fun a b ab g=>BI ab List.Pairwise.nil g) ?_⟩
 obtain⟨X,Y,a,b,ab,e⟩:=Cw hp hu
 refine⟨a,b,ab, ?_, ?_⟩
 ·rw[e];exact(((List.nil_sublist _).cons_cons a).cons_cons b).trans (List.sublist_append_right _ _)
 ·rw[nW,e];exact um ab
def kf:List Int→List Int→List Int
 |[],st=>st
 |x::xs,[]=>kf xs [x]
 |x::xs,y::st=>if x<y then kf xs (x::y::st)else(y::st)++kf xs [x]
theorem ke:∀{xs st:List Int},(kf xs st).Perm (xs++st)
 |[],st=>by cases st<;>exact List.Perm.refl _
 |x::xs,[]=>by
  rw[kf,List.append_nil]
  exact(ke (xs:=xs)).trans (List.perm_append_comm)
 |x::xs,y::st=>by
  rw[kf]
  split
  ·exact(ke (xs:=xs)).trans List.perm_middle
  ·refine(List.Perm.append_left _ (ke (xs:=xs))).trans ?_
   refine List.perm_append_comm.trans ?_
   rw[List.append_assoc]
   exact List.perm_middle.trans (List.Perm.refl _)
theorem tn:∀{xs st:List Int},st.Sublist (kf xs st)
 |[],st=>by cases st<;>exact List.Sublist.refl _
 |x::xs,[]=>List.nil_sublist _
 |x::xs,y::st=>by
  rw[kf]
  split
  ·exact(List.sublist_cons_self x _).trans (tn (xs:=xs))
  ·exact List.sublist_append_left _ _
theorem to {a b:Int} (ab:a<b):∀{xs st:List Int},st.Pairwise (·≤·)→a∈st→b∈xs→[a,b].Sublist (kf xs st)
 |[],_,_,_,h=>by cases h
 |x::xs,[],_,h,_=>by cases h
 |x::xs,y::st,hs,ha,hb=>by
  have hy:y≤a:=by
   rcases List.mem_cons.1 ha with e|g
   ·omega
   ·exact(List.pairwise_cons.1 hs).1 a g
  rw[kf]
  split
  ·rename_i hx
   refine to ab (List.pairwise_cons.2 ⟨fun z hz=> ?_,hs⟩) (by simp[List.mem_cons.1 ha]) ?_
   ·rcases List.mem_cons.1 hz with e|g
    ·omega
    ·have:=(List.pairwise_cons.1 hs).1 z g;omega
   ·rcases List.mem_cons.1 hb with e|g
    ·omega
    ·exact g
  ·refine sZ ha ((ke (xs:=xs)).mem_iff.2 ?_)
   rcases List.mem_cons.1 hb with e|g
   ·simp[e]
   ·simp[g]
theorem tp {a b:Int} (ab:a<b):∀{xs st:List Int},st.Pairwise (·≤·)→[a,b].Sublist xs→[a,b].Sublist (kf xs st)
 |[],_,_,h=>by cases h
 |x::xs,[],_,h=>by
  rw[kf]
  rcases List.sublist_cons_iff.1 h with g|⟨r,e,g⟩
  ·exact tp ab (by simp) g
  ·cases e;exact to ab (by simp) (by simp) (g.subset (by simp))
 |x::xs,y::st,hs,h=>by
  rw[kf]
  split
  ·rename_i hx
   have hs':(x::y::st).Pairwise (·≤·):=List.pairwise_cons.2 ⟨fun z hz=>by
    rcases List.mem_cons.1 hz with e|g
    ·omega
    ·have:=(List.pairwise_cons.1 hs).1 z g;omega,hs⟩
   rcases List.sublist_cons_iff.1 h with g|⟨r,e,g⟩
   ·exact tp ab hs' g
   ·cases e;exact to ab hs' (by simp) (g.subset (by simp))
  ·refine List.Sublist.trans ?_ (List.sublist_append_right _ _)
   rcases List.sublist_cons_iff.1 h with g|⟨r,e,g⟩
   ·exact tp ab (by simp) g
   ·cases e;exact to ab (by simp) (by simp) (g.subset (by simp))
theorem mC {a b:Int} (ab:a<b) {Y:List Int}:∀{X st:List Int},[a,b].Sublist (kf (X++b::a::Y) st)
 |[],[]=>by
  rw[List.nil_append,kf,kf,if_pos ab];exact tn
 |[],y::st=>by
  rw[List.nil_append,kf]
  split
  ·rw[kf,if_pos ab]
   exact(((List.nil_sublist _).cons_cons b).cons_cons a).trans tn
  ·refine List.Sublist.trans ?_ (List.sublist_append_right _ _)
   rw[kf,if_pos ab];exact tn
 |x::X,[]=>by rw[List.cons_append,kf];exact mC ab (X:=X)
 |x::X,y::st=>by
  rw[List.cons_append,kf]
  split
  ·exact mC ab (X:=X)
  ·exact(mC ab (X:=X)).trans (List.sublist_append_right _ _)
def nm (p:List Int):List Int:=kf p []
theorem Cb {p:List Int} (hp:aU p=true):aU (nm p)=true∧(nm p).length=p.length∧(y7 p=false→v8 (nm p)<v8 p):=by
 have h:=ke (xs:=p) (st:=[])
 rw[List.append_nil]at h
 have hq:=xX hp h
 refine⟨hq,h.length_eq,fun hu=>CQ hp hq h.length_eq (fun a b ab g=>tp ab List.Pairwise.nil g) ?_⟩
 obtain⟨X,Y,a,b,ab,e⟩:=Cw hp hu
 refine⟨a,b,ab, ?_, ?_⟩
 ·rw[e];exact(((List.nil_sublist _).cons_cons a).cons_cons b).trans (List.sublist_append_right _ _)
 ·rw[nm,e];exact mC ab
def ua (f:List Int→List Int):Nat→List Int→Int
 |0,_=>0
 |d+1,p=>if y7 p=true then 0 else 1+ua f d (f p)
theorem IM {f:List Int→List Int}:∀{d:Nat} {p:List Int},0≤ua f d p∧ua f d p≤d
 |0,_=>by simp[ua]
 |d+1,p=>by have:=IM (f:=f) (d:=d) (p:=f p);rw[ua];split<;>omega
theorem wi {f:List Int→List Int} {d:Nat} {p:List Int} (h:y7 p=true):ua f d p=0:=by cases d<;>simp[ua,h]
end Go.Gl
namespace Go.Gl
open Go Go.Proofs Go.Sort
variable [Amb]
theorem uw:Ep Tryz.prog 133 List.reverse:=by
 refine⟨⟨_,Tryz.func133,rfl,rfl⟩,fun l=>List.length_reverse,fun w a cap=> ?_,fun w B off cap l cs E lo hi hc hs hf hm hx=> ?_⟩
 ·exact(Tryz.slices_Reverse_int_empty a cap w).mono fun e w' h=>⟨h.1,w.drawn,Nat.le_refl _,by rw[h.2]⟩
 ·have hg:∀j (h:j<l.length),cs[off+j]? =some (.int .i64 l[j]):=fun j h=>hx j _ (List.getElem?_eq_getElem h)
  refine(Tryz.slices_Reverse_int B off cap l w ?_ (Nat.le_trans hm (by decide))).mono fun e w' h=>⟨h.1, ?_⟩
  ·intro j hj
   simp only[List.size_toArray]at hj
   constructor
   ·simp only[World.cell?,hc,Option.isSome_none,Bool.false_eq_true,if_false]
    rw[hg j hj]
    simp[hj]
   ·simp only[World.frozen?,hc]
    rcases hf with hf|hf
    ·simp;omega
    ·simp;omega
  ·obtain⟨n,rfl⟩:=h.2
   refine⟨w.drawn+n,by omega, ?_⟩
   have hlt:B<w.heap.size:=(Array.getElem?_eq_some_iff.1 hc).1
   have hh:(mapBlock (Go.Sort.ahead w n) B (putCells (Value.int .i64) off l.reverse.toArray)).heap=(w.setRow B (cs.toList.take off++(l.reverse).map (Value.int .i64)++cs.toList.drop (off+l.length)).toArray).heap:=by
    apply Array.ext_getElem?
    intro k
    simp only[mapBlock,Go.Sort.ahead,World.setRow,Array.getElem?_modify]
    by_cases e:B=k
    ·subst e
     rw[if_pos rfl,if_pos rfl,hc]
     simp only[Option.map_some,onCells]
     congr 2
     apply Array.ext_getElem?
     intro i
     simp only[putCells,Array.getElem?_mapIdx,List.getElem?_toArray,List.size_toArray,List.length_reverse]
     rw[List.append_assoc,List.getElem?_append]
     have htk:(cs.toList.take off).length=off:=by simp;omega
     rw[htk]
     by_cases h1:i<off
     ·rw[if_pos h1,List.getElem?_take,if_pos h1]
      cases q:cs[i]? with
      |none=>simp[q]
      |some v=>simp only[Option.map_some,Array.getElem?_toList,q];rw[if_neg (by omega)]
     ·rw[if_neg h1,List.getElem?_append,List.length_map,List.length_reverse]
      by_cases h2:i - off<l.length
      ·rw[if_pos h2,List.getElem?_map,Array.getElem?_eq_getElem (by omega)]
       simp only[Option.map_some]
       rw[if_pos ⟨by omega,by omega⟩,List.getElem?_eq_getElem (by simpa using h2)]
       simp[h2]
      ·rw[if_neg h2,List.getElem?_drop,show off+l.length+(i - off - l.length)=i by omega]
       cases q:cs[i]? with
       |none=>simp[q]
       |some v=>simp only[Option.map_some,Array.getElem?_toList,q];rw[if_neg (by omega)]
    ·rw[if_neg e,if_neg e]
   exact congrArg (fun H=>({w with heap:=H,drawn:=w.drawn+n}:World)) hh
end Go.Gl
