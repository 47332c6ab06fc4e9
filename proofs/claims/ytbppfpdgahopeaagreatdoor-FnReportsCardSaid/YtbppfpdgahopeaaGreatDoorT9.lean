/-
  What the functions compute, and what the law asks of it: texts joined. Conditions: those that each lemma names.
-/
import Derived.Test.YtbppfpdgahopeaaGreatDoorT1
import Derived.Test.YtbppfpdgahopeaaGreatDoorT8
import Derived.Test.YtbppfpdgahopeaaGreatDoorGlC
import Derived.Test.YtbppfpdgahopeaaGreatDoorT2
import Derived.Test.YtbppfpdgahopeaaGreatDoorT5
import Derived.Test.YtbppfpdgahopeaaGreatDoorT6
import Derived.Test.YtbppfpdgahopeaaGreatDoorT3
import Derived.Test.YtbppfpdgahopeaaGreatDoorT4
set_option linter.unusedSimpArgs false
set_option linter.unusedVariables false
set_option maxRecDepth 20000
set_option linter.unusedSectionVars false
set_option maxHeartbeats 16000000
namespace Go.Gl
open Go Go.Proofs
variable [Amb] [NoQ]
def vq (v:Int):List Int→Int
 |[]=>0
 |w::l=>db (decide (v<w))+vq v l
def eK (p:List Int):Nat→Int
 |0=>0
 |k+1=>eK p k+vq (p.getD k 0) (p.take k)
theorem vp {v x:Int}:∀{l:List Int},vq v (l++[x])=vq v l+db (decide (v<x))
 |[]=>by simp[vq]
 |w::l=>by rw[List.cons_append,vq,vq,vp];omega
theorem yu {v:Int}:∀{l:List Int},0≤vq v l∧vq v l≤l.length
 |[]=>by simp[vq]
 |w::l=>by have:=yu (v:=v) (l:=l);have:=ra (decide (v<w));rw[vq,List.length_cons];omega
theorem Da {p:List Int}:∀{k:Nat},k≤p.length→0≤eK p k∧eK p k≤(p.length*k:Nat)
 |0,_=>by simp[eK]
 |k+1,h=>by
  have ih:=Da (p:=p) (k:=k) (by omega)
  have h1:=yu (v:=p.getD k 0) (l:=p.take k)
  rw[List.length_take]at h1
  rw[eK,Nat.mul_succ];omega
theorem cZ {m0:Bool} (p:List Int) (hp:p.length≤1048576):Fun Tryz.prog 28 [(.sl (.lent m0) (List.map (PV.int .i64) (p)))] [(.int .i64 ((if ae p then eK p p.length else -1)))]:=by
 by_cases h:ae p=true
 ·rw[if_pos h]
  have h8:p.length≤8:=by simp[ae]at h;exact h.1
  have hb:∀k,0≤eK p k∧eK p k≤8*(k:Int):=fun k=>by
   induction k with
   |zero=>simp[eK]
   |succ k ih=>
    have:=yu (v:=p.getD k 0) (l:=p.take k)
    rw[List.length_take]at this
    rw[eK];omega
  refine fO aR [2] Tryz.func28 ?_
  have cE1:= @dN;have cE2:= @aq;have cD1:=gY [false,false,false,false,false,false,false,false,false,false,true,false,false] [(0,10)]
  refine ax @h ?_
  all_goals try(apply ai;repeat' first|exact ah|apply aa|(apply ak;intro zb hc)|(apply aj;intro zb)|intro j')<;>try apply al
  refine an (fun ms1 S1=>∃(k:Nat),S1.e 0=.p (.sl (.lent m0) (List.map (PV.int .i64) (p)))∧S1.e 3=.p (.int .i64 (eK p k))∧S1.e 4=.p (.int .i64 (k))∧(k≤p.length)∧ms1=p.length - k) ((fun(k:Nat)=>p.length - k) (0)) ?_ ⟨0,dC trivial ?_⟩
  all_goals try(apply ai;repeat' first|exact ah|apply aa|(apply ak;intro zb hc)|(apply aj;intro zb)|intro j')<;>try apply al
  rintro ms1 S1 ⟨k,h1_0,h1_3,h1_4,c1_0,hm1⟩
  have fL1:=(aa h1_0 (aa h1_3 h1_4))
  ·have b1:=hb k
   refine ax fL1 ?_
   all_goals try(apply ai;repeat' first|exact ah|apply aa|(apply ak;intro zb hc)|(apply aj;intro zb)|intro j')<;>try apply al
   ·refine an (fun ms2 S2=>∃(i:Nat),S2.e 0=.p (.sl (.lent m0) (List.map (PV.int .i64) (p)))∧S2.e 3=.p (.int .i64 ((eK p k+vq (p.getD k 0) (p.take i))))∧S2.e 4=.p (.int .i64 (k))∧S2.e 5=.p (.int .i64 (i))∧(i≤k)∧(k<p.length)∧S1.n≤S2.n∧ms2=k - i) ((fun(i:Nat)=>k - i) (0)) ?_ ⟨0,dC fL1 ?_⟩
    all_goals try(apply ai;repeat' first|exact ah|apply aa|(apply ak;intro zb hc)|(apply aj;intro zb)|intro j')<;>try apply al
    rintro ms2 S2 ⟨i,h2_0,h2_3,h2_4,h2_5,c2_0,c2_1,u2_0,hm2⟩
    have fL2:=(aa h2_0 (aa h2_3 (aa h2_4 h2_5)))
    ·have b2:=yu (v:=p.getD k 0) (l:=p.take i)
     have b3:=ra (decide (p.getD k 0<p.getD i 0))
     rw[List.length_take]at b2
     refine ax fL2 ?_
     all_goals try(apply ai;repeat' first|exact ah|apply aa|(apply ak;intro zb hc)|(apply aj;intro zb)|intro j')<;>try apply al
     ·focus
       refine am ((fun(i:Nat)=>k - i) (i+1)) (dC fL2 ?_) ⟨i+1,dC fL2 ?_⟩
       all_goals try(apply ai;repeat' first|exact ah|apply aa|(apply ak;intro zb hc)|(apply aj;intro zb)|intro j')<;>try apply al
      rw[az (d:=0) (by omega),vp];omega
     ·focus
       refine am ((fun(k:Nat)=>p.length - k) (k+1)) (dC fL2 ?_) ⟨k+1,dC fL2 ?_⟩
       all_goals try(apply ai;repeat' first|exact ah|apply aa|(apply ak;intro zb hc)|(apply aj;intro zb)|intro j')<;>try apply al
      obtain rfl:i=k:=by omega
      rfl
    ·simp[vq]
   ·obtain rfl:k=p.length:=by omega
    rfl
 ·rw[if_neg h]
  rw[Bool.not_eq_true]at h
  refine fO aR [2] Tryz.func28 ?_
  have cE1:= @dN;have cE2:= @aq;have cD1:=gY [false,false,false,false,false,false,false,false,false,false,true,false,false] [(0,10)]
  refine ax @h ?_
  all_goals try(apply ai;repeat' first|exact ah|apply aa|(apply ak;intro zb hc)|(apply aj;intro zb)|intro j')<;>try apply al
theorem gP {v:Int}:∀{l:List Int},cC v l=(l.countP (fun w=>decide (w<v)):Int)
 |[]=>rfl
 |w::l=>by
  rw[cC,gP,List.countP_cons]
  by_cases h:w<v
  ·rw[decide_eq_true h,if_pos rfl,db,if_pos rfl];omega
  ·rw[decide_eq_false h,if_neg (by decide),db,if_neg (by decide)];omega
theorem yK {v:Int} {a b:List Int}:cC v (a++b)=cC v a+cC v b:=by
 rw[gP,gP,gP,List.countP_append];omega
def lr:List Int→Int
 |[]=>0
 |x::l=>x+lr l
theorem sb {v:Int} {p:List Int}:∀{k:Nat},k≤p.length→eK (v::p) (k+1)=cC v (p.take k)+eK p k
 |0,_=>by simp[eK,vq,cC]
 |k+1,h=>by
  show eK (v::p) (k+1)+vq ((v::p).getD (k+1) 0) ((v::p).take (k+1))=cC v (p.take (k+1))+(eK p k+vq (p.getD k 0) (p.take k))
  rw[sb (k:=k) (by omega),az (l:=p) (i:=k) (d:=0) (by omega),yK,List.getD_cons_succ,List.take_succ_cons,vq,cC,cC];omega
theorem u6:∀{p:List Int},lr (bm p)=eK p p.length
 |[]=>rfl
 |v::p=>by rw[bm,lr,u6,List.length_cons,sb (Nat.le_refl _),List.take_length]
theorem rS {x:Int}:∀{l:List Int},lr (l++[x])=lr l+x
 |[]=>by simp[lr]
 |w::l=>by rw[List.cons_append,lr,lr,rS];omega
def mY (f:Nat→Bool):Nat→List Int
 |0=>[]
 |k+1=>mY f k++if f k=true then[(k:Int)+1]else[]
theorem pd {f:Nat→Bool}:∀{k:Nat},(mY f k).length≤k∧∀x∈mY f k,1≤x∧x≤k
 |0=>by simp[mY]
 |k+1=>by
  obtain⟨h1,h2⟩:=pd (f:=f) (k:=k)
  rw[mY]
  refine⟨by split<;>simp<;>omega,fun x hx=> ?_⟩
  rcases List.mem_append.1 hx with g|g
  ·have:=h2 x g;omega
  ·split at g
   ·rw[List.mem_singleton]at g;omega
   ·cases g
def rn (p:List Int) (k:Nat):Bool:=decide (k+1<p.length)&&decide (p.getD (k+1) 0<p.getD k 0)
def xg (p:List Int):List Int:=if ae p=true then mY (rn p) p.length else[]
theorem dsL_f {p:List Int}:(xg p).length≤8∧∀x∈xg p,1≤x∧x≤8:=by
 unfold xg;split
 ·rename_i h
  have h8:=(aw h).1
  obtain⟨h1,h2⟩:=pd (f:=rn p) (k:=p.length)
  exact⟨by omega,fun x hx=>by have:=h2 x hx;omega⟩
 ·simp
theorem H0 {p:List Int} {k:Nat} (h:p.length≤k+1):mY (rn p) (k+1)=mY (rn p) k:=by
 rw[mY,rn,decide_eq_false (by omega)];simp
theorem k8 (k:Int) (p:List Int) (m1:Bool) (h0:0≤k) (h1:k<p.length) (h8:p.length≤8):Fun Tryz.prog 87 [(.int .i64 (k)),(.pc [.sl (.lent m1) (List.map (PV.int .i64) p)])] [(.bool (rn p k.toNat))]:=by
 refine fO aR [3] Tryz.func87 ?_
 obtain⟨K,rfl⟩:=Int.eq_ofNat_of_zero_le h0
 have e1:((K:Int)+1).toNat=K+1:=by omega
 by_cases h:K+1<p.length
 ·have e:rn p (K:Int).toNat=decide (p.getD (K+1) 0<p.getD K 0):=by rw[rn,Int.toNat_natCast,decide_eq_true h,Bool.true_and]
  rw[e]
  refine ax @e1 ?_
  all_goals try(apply ai;repeat' first|exact ah|apply aa|(apply ak;intro zb hc)|(apply aj;intro zb)|intro j')<;>try apply al
 ·have e:rn p (K:Int).toNat=false:=by rw[rn,Int.toNat_natCast,decide_eq_false h,Bool.false_and]
  rw[e]
  refine ax @e1 ?_
  all_goals try(apply ai;repeat' first|exact ah|apply aa|(apply ak;intro zb hc)|(apply aj;intro zb)|intro j')<;>try apply al
theorem ln {m0:Bool} (p:List Int) (g:FuncId) (caps:List PV) (f:Nat→Bool) (hl:p.length≤1048576) (hf:ae p=true→∀k:Nat,k<p.length→Fun Tryz.prog g (.int .i64 k::caps.map PV.cell) [.bool (f k)]):Fun Tryz.prog 86 [(.sl (.lent m0) (List.map (PV.int .i64) (p))),(.fn g [] caps)] [(.sl .own (List.map (PV.int .i64) ((if ae p=true then mY f p.length else[]))))]:=by
 by_cases h:ae p=true
 ·have h8:=(aw h).1
  rw[if_pos h]
  refine fO aR [4] Tryz.func86 ?_
  have cE1:= @ao
  refine ax @h ?_
  all_goals try(apply ai;repeat' first|exact ah|apply aa|(apply ak;intro zb hc)|(apply aj;intro zb)|intro j')<;>try apply al
  refine an (fun ms1 S1=>∃(k:Nat),S1.e 0=.p (.sl (.lent m0) (List.map (PV.int .i64) (p)))∧S1.e 1=.p (.fn g [] caps)∧OwnL (S1.e 5) S1.h S1.n (PV.int .i64) ((mY f k).length) (mY f k)∧S1.e 12=.p (.int .i64 (p.length))∧S1.e 13=.p (.int .i64 (k))∧(k≤p.length)∧ms1=p.length - k) ((fun(k:Nat)=>p.length - k) (0)) ?_ ⟨0,dC trivial ?_⟩
  all_goals try(apply ai;repeat' first|exact ah|apply aa|(apply ak;intro zb hc)|(apply aj;intro zb)|intro j')<;>try apply al
  rintro ms1 S1 ⟨k,h1_0,h1_1,o1_5,h1_12,h1_13,c1_0,hm1⟩
  obtain⟨i1_5,h1_5,b1_5,l1_5⟩:=o1_5.out
  have ni1_5:=aG (x:=i1_5) (n:=S1.n)
  have fL1:=(aa h1_0 (aa h1_1 (aa h1_12 (aa h1_13 (aa h1_5 (aa b1_5 ni1_5))))))
  ·have l1:=(pd (f:=f) (k:=k)).1
   by_cases hk:k<p.length
   ·have c9:=hf h k hk
    cases hb:f k with
    |true=>
     have e:mY f (k+1)=mY f k++[(k:Int)+1]:=by rw[mY,hb];rfl
     have cE1:= @c9;have cE2:= @ao
     refine ax (aa fL1 @hb) ?_
     all_goals try(apply ai;repeat' first|exact ah|apply aa|(apply ak;intro zb hc)|(apply aj;intro zb)|intro j')<;>try apply al
     focus
      refine am ((fun(k:Nat)=>p.length - k) (k+1)) (dC fL1 ?_) ⟨k+1,dC fL1 ?_⟩
      all_goals try(apply ai;repeat' first|exact ah|apply aa|(apply ak;intro zb hc)|(apply aj;intro zb)|intro j')<;>try apply al
     all_goals(first|(rw[e];done)|(rw[e,List.length_append];rfl)|skip)
    |false=>
     have e:mY f (k+1)=mY f k:=by rw[mY,hb];simp
     have cE1:= @c9;have cE2:= @ao
     refine ax (aa fL1 @hb) ?_
     all_goals try(apply ai;repeat' first|exact ah|apply aa|(apply ak;intro zb hc)|(apply aj;intro zb)|intro j')<;>try apply al
     focus
      refine am ((fun(k:Nat)=>p.length - k) (k+1)) (dC fL1 ?_) ⟨k+1,dC fL1 ?_⟩
      all_goals try(apply ai;repeat' first|exact ah|apply aa|(apply ak;intro zb hc)|(apply aj;intro zb)|intro j')<;>try apply al
     all_goals(first|(rw[e];done)|skip)
   ·obtain rfl:k=p.length:=by omega
    have cE1:= @ao;have cE2:=trivial
    refine ax fL1 ?_
    all_goals try(apply ai;repeat' first|exact ah|apply aa|(apply ak;intro zb hc)|(apply aj;intro zb)|intro j')<;>try apply al
 ·rw[if_neg h]
  rw[Bool.not_eq_true]at h
  refine fO aR [4] Tryz.func86 ?_
  have cE1:= @ao
  refine ax @h ?_
  all_goals try(apply ai;repeat' first|exact ah|apply aa|(apply ak;intro zb hc)|(apply aj;intro zb)|intro j')<;>try apply al
theorem cL {m0:Bool} (p:List Int) (hl:p.length≤1048576):Fun Tryz.prog 40 [(.sl (.lent m0) (List.map (PV.int .i64) (p)))] [(.sl .own (List.map (PV.int .i64) (xg p)))]:=by
 have c1:=fun m0:Bool=>ln (m0:=m0) p 87 [.pc [.sl (.lent m0) (List.map (PV.int .i64) p)]] (rn p) hl (fun h k hk=>by
  have:=k8 (k:Int) p m0 (by omega) (by omega) (aw h).1
  rw[Int.toNat_natCast]at this;exact this)
 rw[xg]
 refine fO aR [2] Tryz.func40 ?_
 have cE1:= @ln
 have cE1:= @c1
 refine ax trivial ?_
 all_goals try(apply ai;repeat' first|exact ah|apply aa|(apply ak;intro zb hc)|(apply aj;intro zb)|intro j')<;>try apply al
theorem cJ {m0:Bool} (p:List Int) (hl:p.length≤1048576):Fun Tryz.prog 26 [(.sl (.lent m0) (List.map (PV.int .i64) (p)))] [(.sl .own (List.map (PV.int .i64) (xg p)))]:=by
 by_cases h:ae p=true
 ·have h8:=(aw h).1
  rw[xg,if_pos h]
  refine fO aR [2] Tryz.func26 ?_
  have cE1:= @aq
  refine ax trivial ?_
  all_goals try(apply ai;repeat' first|exact ah|apply aa|(apply ak;intro zb hc)|(apply aj;intro zb)|intro j')<;>try apply al
  refine an (fun ms1 S1=>∃(k:Nat),S1.e 0=.p (.sl (.lent m0) (List.map (PV.int .i64) (p)))∧OwnL (S1.e 3) S1.h S1.n (PV.int .i64) ((mY (rn p) k).length) (mY (rn p) k)∧S1.e 4=.p (.int .i64 (k))∧(k≤p.length)∧(k=0∨k+1≤p.length)∧ms1=p.length - k) ((fun(k:Nat)=>p.length - k) (0)) ?_ ⟨0,dC trivial ?_⟩
  all_goals try(apply ai;repeat' first|exact ah|apply aa|(apply ak;intro zb hc)|(apply aj;intro zb)|intro j')<;>try apply al
  rintro ms1 S1 ⟨k,h1_0,o1_3,h1_4,c1_0,c1_1,hm1⟩
  obtain⟨i1_3,h1_3,b1_3,l1_3⟩:=o1_3.out
  have ni1_3:=aG (x:=i1_3) (n:=S1.n)
  have fL1:=(aa h1_0 (aa h1_4 (aa h1_3 (aa b1_3 ni1_3))))
  ·have l1:=(pd (f:=rn p) (k:=k)).1
   by_cases hk:k+1<p.length
   ·by_cases hb:p.getD (k+1) 0<p.getD k 0
    ·have e:mY (rn p) (k+1)=mY (rn p) k++[(k:Int)+1]:=by rw[mY,rn,decide_eq_true hk,decide_eq_true hb];rfl
     refine ax (aa fL1 (aa @h @hb)) ?_
     all_goals try(apply ai;repeat' first|exact ah|apply aa|(apply ak;intro zb hc)|(apply aj;intro zb)|intro j')<;>try apply al
     focus
      refine am ((fun(k:Nat)=>p.length - k) (k+1)) (dC fL1 ?_) ⟨k+1,dC fL1 ?_⟩
      all_goals try(apply ai;repeat' first|exact ah|apply aa|(apply ak;intro zb hc)|(apply aj;intro zb)|intro j')<;>try apply al
     all_goals(first|(rw[e];done)|(rw[e,List.length_append];rfl)|skip)
    ·have e:mY (rn p) (k+1)=mY (rn p) k:=by rw[mY,rn,decide_eq_false hb];simp
     have hb':(p.getD (k+1) 0<p.getD k 0)=False:=eq_false hb
     refine ax (aa fL1 (aa @h @hb')) ?_
     all_goals try(apply ai;repeat' first|exact ah|apply aa|(apply ak;intro zb hc)|(apply aj;intro zb)|intro j')<;>try apply al
     focus
      refine am ((fun(k:Nat)=>p.length - k) (k+1)) (dC fL1 ?_) ⟨k+1,dC fL1 ?_⟩
      all_goals try(apply ai;repeat' first|exact ah|apply aa|(apply ak;intro zb hc)|(apply aj;intro zb)|intro j')<;>try apply al
     all_goals(first|(rw[e];done)|skip)
   ·have e:mY (rn p) p.length=mY (rn p) k:=by
     by_cases g:p.length=k
     ·rw[g]
     ·rw[show p.length=k+1 by omega];exact H0 (by omega)
    refine ax fL1 ?_
    all_goals try(apply ai;repeat' first|exact ah|apply aa|(apply ak;intro zb hc)|(apply aj;intro zb)|intro j')<;>try apply al
    all_goals(first|(rw[e];done)|skip)
 ·have e:xg p=[]:=if_neg h
  rw[e]
  rw[Bool.not_eq_true]at h
  refine fO aR [2] Tryz.func26 ?_
  have cE1:= @aq
  refine ax trivial ?_
  all_goals try(apply ai;repeat' first|exact ah|apply aa|(apply ak;intro zb hc)|(apply aj;intro zb)|intro j')<;>try apply al
  refine an (fun ms2 S2=>∃(u:Nat),S2.e 0=.p (.sl (.lent m0) (List.map (PV.int .i64) (p)))∧OwnL (S2.e 3) S2.h S2.n (PV.int .i64) ((([]:List Int)).length) (([]:List Int))∧S2.e 4=.p (.int .i64 (0))∧ms2=u) ((fun(u:Nat)=>u) (0)) ?_ ⟨0,dC trivial ?_⟩
  all_goals try(apply ai;repeat' first|exact ah|apply aa|(apply ak;intro zb hc)|(apply aj;intro zb)|intro j')<;>try apply al
  rintro ms2 S2 ⟨u,h2_0,o2_3,h2_4,hm2⟩
  obtain⟨i2_3,h2_3,b2_3,l2_3⟩:=o2_3.out
  have ni2_3:=aG (x:=i2_3) (n:=S2.n)
  have fL2:=(aa h2_0 (aa h2_4 (aa h2_3 (aa b2_3 ni2_3))))
  ·refine ax (aa fL2 @h) ?_
   all_goals try(apply ai;repeat' first|exact ah|apply aa|(apply ak;intro zb hc)|(apply aj;intro zb)|intro j')<;>try apply al
def IW (l:List Int):Nat→Int
 |0=>0
 |k+1=>IW l k+l.getD k 0
theorem yd {l:List Int} (h:∀x∈l,1≤x∧x≤8):∀{k:Nat},k≤l.length→0≤IW l k∧IW l k≤8*k
 |0,_=>by simp[IW]
 |k+1,hk=>by
  have h1:=yd h (k:=k) (by omega)
  have h2:=h _ (ar (l:=l) (i:=k) (d:=0) (by omega))
  rw[IW];omega
def CE (p:List Int):Int:=if ae p=true then IW (xg p) (xg p).length else -1
theorem CD {p:List Int}: -1≤CE p∧CE p≤64:=by
 unfold CE;split
 ·obtain⟨h1,h2⟩:=dsL_f (p:=p)
  have:=yd h2 (Nat.le_refl _);omega
 ·omega
theorem ip {m0:Bool} (p:List Int) (hl:p.length≤1048576):Fun Tryz.prog 43 [(.sl (.lent m0) (List.map (PV.int .i64) (p)))] [(.int .i64 (CE p))]:=by
 by_cases h:ae p=true
 ·obtain⟨h1,h2⟩:=dsL_f (p:=p)
  rw[CE,if_pos h]
  generalize hL:xg p=L at*
  refine fO aR [2] Tryz.func43 ?_
  have cE1:= @ao;have cE2:= @cL
  refine ax (aa @h @hL) ?_
  all_goals try(apply ai;repeat' first|exact ah|apply aa|(apply ak;intro zb hc)|(apply aj;intro zb)|intro j')<;>try apply al
  refine an (fun ms1 S1=>∃(k:Nat),S1.e 3=.p (.int .i64 (IW L k))∧OwnL (S1.e 10) S1.h S1.n (PV.int .i64) ((L).length) (L)∧S1.e 11=.p (.int .i64 (L.length))∧S1.e 12=.p (.int .i64 (k))∧(k≤L.length)∧ms1=L.length - k) ((fun(k:Nat)=>L.length - k) (0)) ?_ ⟨0,dC trivial ?_⟩
  all_goals try(apply ai;repeat' first|exact ah|apply aa|(apply ak;intro zb hc)|(apply aj;intro zb)|intro j')<;>try apply al
  rintro ms1 S1 ⟨k,h1_3,o1_10,h1_11,h1_12,c1_0,hm1⟩
  obtain⟨i1_10,h1_10,b1_10,l1_10⟩:=o1_10.out
  have ni1_10:=aG (x:=i1_10) (n:=S1.n)
  have fL1:=(aa h1_3 (aa h1_11 (aa h1_12 (aa h1_10 (aa b1_10 ni1_10)))))
  ·have b1:=yd h2 c1_0
   by_cases hk:k<L.length
   ·have b2:=h2 _ (ar (l:=L) (i:=k) (d:=0) hk)
    refine ax fL1 ?_
    all_goals try(apply ai;repeat' first|exact ah|apply aa|(apply ak;intro zb hc)|(apply aj;intro zb)|intro j')<;>try apply al
    focus
     refine am ((fun(k:Nat)=>L.length - k) (k+1)) (dC fL1 ?_) ⟨k+1,dC fL1 ?_⟩
     all_goals try(apply ai;repeat' first|exact ah|apply aa|(apply ak;intro zb hc)|(apply aj;intro zb)|intro j')<;>try apply al
   ·obtain rfl:k=L.length:=by omega
    refine ax fL1 ?_
    all_goals try(apply ai;repeat' first|exact ah|apply aa|(apply ak;intro zb hc)|(apply aj;intro zb)|intro j')<;>try apply al
 ·rw[CE,if_neg h]
  rw[Bool.not_eq_true]at h
  refine fO aR [2] Tryz.func43 ?_
  have cE1:= @ao;have cE2:= @cL
  refine ax @h ?_
  all_goals try(apply ai;repeat' first|exact ah|apply aa|(apply ak;intro zb hc)|(apply aj;intro zb)|intro j')<;>try apply al
theorem hR {m0:Bool} (p:List Int) (hl:p.length≤1048576):Fun Tryz.prog 29 [(.sl (.lent m0) (List.map (PV.int .i64) (p)))] [(.int .i64 (CE p))]:=by
 by_cases h:ae p=true
 ·obtain⟨h1,h2⟩:=dsL_f (p:=p)
  rw[CE,if_pos h]
  generalize hL:xg p=L at*
  refine fO aR [2] Tryz.func29 ?_
  have cE1:= @aq;have cE2:= @cJ
  refine ax (aa @h @hL) ?_
  all_goals try(apply ai;repeat' first|exact ah|apply aa|(apply ak;intro zb hc)|(apply aj;intro zb)|intro j')<;>try apply al
  refine an (fun ms1 S1=>∃(k:Nat),S1.e 3=.p (.int .i64 (IW L k))∧OwnL (S1.e 4) S1.h S1.n (PV.int .i64) ((L).length) (L)∧S1.e 5=.p (.int .i64 (k))∧(k≤L.length)∧ms1=L.length - k) ((fun(k:Nat)=>L.length - k) (0)) ?_ ⟨0,dC trivial ?_⟩
  all_goals try(apply ai;repeat' first|exact ah|apply aa|(apply ak;intro zb hc)|(apply aj;intro zb)|intro j')<;>try apply al
  rintro ms1 S1 ⟨k,h1_3,o1_4,h1_5,c1_0,hm1⟩
  obtain⟨i1_4,h1_4,b1_4,l1_4⟩:=o1_4.out
  have ni1_4:=aG (x:=i1_4) (n:=S1.n)
  have fL1:=(aa h1_3 (aa h1_5 (aa h1_4 (aa b1_4 ni1_4))))
  ·have b1:=yd h2 c1_0
   by_cases hk:k<L.length
   ·have b2:=h2 _ (ar (l:=L) (i:=k) (d:=0) hk)
    refine ax fL1 ?_
    all_goals try(apply ai;repeat' first|exact ah|apply aa|(apply ak;intro zb hc)|(apply aj;intro zb)|intro j')<;>try apply al
    focus
     refine am ((fun(k:Nat)=>L.length - k) (k+1)) (dC fL1 ?_) ⟨k+1,dC fL1 ?_⟩
     all_goals try(apply ai;repeat' first|exact ah|apply aa|(apply ak;intro zb hc)|(apply aj;intro zb)|intro j')<;>try apply al
   ·obtain rfl:k=L.length:=by omega
    refine ax fL1 ?_
    all_goals try(apply ai;repeat' first|exact ah|apply aa|(apply ak;intro zb hc)|(apply aj;intro zb)|intro j')<;>try apply al
 ·rw[CE,if_neg h]
  rw[Bool.not_eq_true]at h
  refine fO aR [2] Tryz.func29 ?_
  have cE1:= @aq;have cE2:= @cJ
  refine ax @h ?_
  all_goals try(apply ai;repeat' first|exact ah|apply aa|(apply ak;intro zb hc)|(apply aj;intro zb)|intro j')<;>try apply al
theorem sD:∀{p:List Int} {i:Nat},i<p.length→(bm p).getD i 0=cC (p.getD i 0) (p.drop (i+1))
 |[],_,h=>by simp at h
 |_::_,0,_=>rfl
 |_::p,i+1,h=>sD (p:=p) (by simpa using h)
theorem xJ {l:List Int} {k:Nat} (h:k<l.length):lr (l.take (k+1))=lr (l.take k)+l.getD k 0:=by rw[az (d:=0) h,rS]
theorem xK {l:List Int} {B:Nat} (h:∀x∈l,0≤x∧x≤B):∀{k:Nat},k≤l.length→0≤lr (l.take k)∧lr (l.take k)≤(B*k:Nat)
 |0,_=>by simp[lr]
 |k+1,hk=>by
  have h1:=xK h (k:=k) (by omega)
  have h2:=h _ (ar (l:=l) (i:=k) (d:=0) (by omega))
  rw[xJ (by omega),Nat.mul_succ];omega
theorem DW {v:Int} {l:List Int} {k:Nat} (h:k<l.length):cC v (l.take (k+1))=cC v (l.take k)+db (decide (l.getD k 0<v)):=by
 rw[az (d:=0) h,yK];simp[cC]
theorem iP {m0:Bool} (p:List Int) (h8:p.length≤8):Fun Tryz.prog 89 [(.sl (.lent m0) (List.map (PV.int .i64) (p)))] [(.int .i64 (eK p p.length))]:=by
 refine fO aR [2] Tryz.func89 ?_
 have hb:∀x∈bm p,0≤x∧x≤(8:Nat):=fun x hx=>by
  obtain⟨i,hi,rfl⟩:=List.getElem_of_mem hx
  have:=nR p i
  rw[List.getD_eq_getElem?_getD,List.getElem?_eq_getElem hi]at this
  simp only[Option.getD_some]at this;omega
 have hq:=ja p
 rw[←u6]
 refine ax trivial ?_
 all_goals try(apply ai;repeat' first|exact ah|apply aa|(apply ak;intro zb hc)|(apply aj;intro zb)|intro j')<;>try apply al
 refine an (fun ms1 S1=>∃(i:Nat),S1.e 0=.p (.sl (.lent m0) (List.map (PV.int .i64) (p)))∧S1.e 3=.p (.int .i64 (lr ((bm p).take i)))∧S1.e 8=.p (.sl (.lent m0) (List.map (PV.int .i64) (p)))∧S1.e 9=.p (.int .i64 (p.length))∧S1.e 10=.p (.int .i64 (i))∧(i≤p.length)∧ms1=p.length - i) ((fun(i:Nat)=>p.length - i) (0)) ?_ ⟨0,dC trivial ?_⟩
 all_goals try(apply ai;repeat' first|exact ah|apply aa|(apply ak;intro zb hc)|(apply aj;intro zb)|intro j')<;>try apply al
 rintro ms1 S1 ⟨i,h1_0,h1_3,h1_8,h1_9,h1_10,c1_0,hm1⟩
 have fL1:=(aa h1_0 (aa h1_3 (aa h1_8 (aa h1_9 h1_10))))
 ·have b1:=xK hb (k:=i) (by omega)
  by_cases hi:i<p.length
  ·have e1:((i:Int)+1).toNat=i+1:=by omega
   have e2:(p.drop (i+1)).length=p.length - (i+1):=List.length_drop
   have e3:=xJ (l:=bm p) (k:=i) (by omega)
   rw[sD hi]at e3
   generalize hD:p.drop (i+1)=D at*
   refine ax (aa fL1 (aa @e1 @hD)) ?_
   all_goals try(apply ai;repeat' first|exact ah|apply aa|(apply ak;intro zb hc)|(apply aj;intro zb)|intro j')<;>try apply al
   refine an (fun ms2 S2=>∃(j:Nat),S2.e 0=.p (.sl (.lent m0) (List.map (PV.int .i64) (p)))∧S2.e 3=.p (.int .i64 ((lr ((bm p).take i)+cC (p.getD i 0) (D.take j))))∧S2.e 8=.p (.sl (.lent m0) (List.map (PV.int .i64) (p)))∧S2.e 9=.p (.int .i64 (p.length))∧S2.e 10=.p (.int .i64 (i))∧S2.e 5=.p (.int .i64 ((p.getD i 0)))∧S2.e 18=.p (.sl (.lent m0) (List.map (PV.int .i64) (D)))∧S2.e 19=.p (.int .i64 (D.length))∧S2.e 20=.p (.int .i64 (j))∧(j≤D.length)∧S1.n≤S2.n∧ms2=D.length - j) ((fun(j:Nat)=>D.length - j) (0)) ?_ ⟨0,dC fL1 ?_⟩
   all_goals try(apply ai;repeat' first|exact ah|apply aa|(apply ak;intro zb hc)|(apply aj;intro zb)|intro j')<;>try apply al
   rintro ms2 S2 ⟨j,h2_0,h2_3,h2_8,h2_9,h2_10,h2_5,h2_18,h2_19,h2_20,c2_0,u2_0,hm2⟩
   have fL2:=(aa h2_0 (aa h2_3 (aa h2_8 (aa h2_9 (aa h2_10 (aa h2_5 (aa h2_18 (aa h2_19 h2_20))))))))
   ·have b2:=qU (p.getD i 0) (D.take j)
    rw[List.length_take]at b2
    by_cases hj:j<D.length
    ·have e4:=DW (v:=p.getD i 0) hj
     by_cases hv:D.getD j 0<p.getD i 0
     ·rw[decide_eq_true hv]at e4
      refine ax (aa fL2 @hv) ?_
      all_goals try(apply ai;repeat' first|exact ah|apply aa|(apply ak;intro zb hc)|(apply aj;intro zb)|intro j')<;>try apply al
      focus
       refine am ((fun(j:Nat)=>D.length - j) (j+1)) (dC fL2 ?_) ⟨j+1,dC fL2 ?_⟩
       all_goals try(apply ai;repeat' first|exact ah|apply aa|(apply ak;intro zb hc)|(apply aj;intro zb)|intro j')<;>try apply al
      all_goals(first|(rw[e4];simp only[db,if_true];omega)|skip)
     ·rw[decide_eq_false hv]at e4
      have hv':(D.getD j 0<p.getD i 0)=False:=eq_false hv
      refine ax (aa fL2 @hv') ?_
      all_goals try(apply ai;repeat' first|exact ah|apply aa|(apply ak;intro zb hc)|(apply aj;intro zb)|intro j')<;>try apply al
      focus
       refine am ((fun(j:Nat)=>D.length - j) (j+1)) (dC fL2 ?_) ⟨j+1,dC fL2 ?_⟩
       all_goals try(apply ai;repeat' first|exact ah|apply aa|(apply ak;intro zb hc)|(apply aj;intro zb)|intro j')<;>try apply al
      all_goals(first|(rw[e4];simp[db];done)|skip)
    ·have e5:D.take j=D:=List.take_of_length_le (by omega)
     refine ax (aa fL2 @e5) ?_
     all_goals try(apply ai;repeat' first|exact ah|apply aa|(apply ak;intro zb hc)|(apply aj;intro zb)|intro j')<;>try apply al
     focus
      refine am ((fun(i:Nat)=>p.length - i) (i+1)) (dC fL2 ?_) ⟨i+1,dC fL2 ?_⟩
      all_goals try(apply ai;repeat' first|exact ah|apply aa|(apply ak;intro zb hc)|(apply aj;intro zb)|intro j')<;>try apply al
     all_goals(first|(rw[e3];done)|(rw[e5,e3];done)|skip)
   all_goals(first|(simp[cC];done)|skip)
  ·have e6:(bm p).take i=bm p:=List.take_of_length_le (by omega)
   refine ax (aa fL1 @e6) ?_
   all_goals try(apply ai;repeat' first|exact ah|apply aa|(apply ak;intro zb hc)|(apply aj;intro zb)|intro j')<;>try apply al
   all_goals(first|(rw[e6];done)|skip)
theorem c8 {m0:Bool} (p:List Int) (hl:p.length≤1048576):Fun Tryz.prog 42 [(.sl (.lent m0) (List.map (PV.int .i64) (p)))] [(.int .i64 ((if ae p then eK p p.length else -1)))]:=by
 by_cases h:ae p=true
 ·have h8:=(aw h).1
  have e:(if ae p then eK p p.length else -1)=eK p p.length:=if_pos h
  rw[e]
  refine fO aR [2] Tryz.func42 ?_
  have cE1:= @ao;have cE2:= @iP
  refine ax @h ?_
  all_goals try(apply ai;repeat' first|exact ah|apply aa|(apply ak;intro zb hc)|(apply aj;intro zb)|intro j')<;>try apply al
 ·have e:(if ae p then eK p p.length else -1)= -1:=if_neg h
  rw[e]
  rw[Bool.not_eq_true]at h
  refine fO aR [2] Tryz.func42 ?_
  have cE1:= @ao;have cE2:= @iP
  refine ax @h ?_
  all_goals try(apply ai;repeat' first|exact ah|apply aa|(apply ak;intro zb hc)|(apply aj;intro zb)|intro j')<;>try apply al
def wc (p:List Int):Nat→List Bool→Nat→List Bool
 |0,v,_=>v
 |d+1,v,x=>if v.getD x false=true then v else wc p d (v.set x true) (p.getD x 0 - 1).toNat
def iS (p:List Int):Nat→List Bool×Int
 |0=>(List.replicate p.length false,0)
 |k+1=>if(iS p k).1.getD k false=true then iS p k else(wc p p.length (iS p k).1 k,(iS p k).2+1)
def MX (v:List Bool):Nat:=v.countP fun b=> !b
theorem tO:∀{v:List Bool} {x:Nat},x<v.length→v.getD x false=false→MX (v.set x true)+1=MX v
 |b::v,0,_,h=>by
  simp only[List.getD_cons_zero]at h;subst h
  simp[MX]
 |b::v,x+1,hx,h=>by
  have:=tO (v:=v) (x:=x) (by simpa using hx) (by simpa using h)
  simp only[MX,List.set_cons_succ,List.countP_cons]at this ⊢;omega
theorem Dq {v:List Bool}:MX v≤v.length:=List.countP_le_length
theorem nQ {p:List Int} {d:Nat} {v:List Bool} {x:Nat} (h:v.getD x false=true):wc p d v x=v:=by
 cases d with
 |zero=>rfl
 |succ d=>rw[wc,if_pos h]
theorem pg {p:List Int}:∀{d:Nat} {v:List Bool} {x:Nat},(wc p d v x).length=v.length
 |0,_,_=>rfl
 |d+1,v,x=>by rw[wc];split;rfl;rw[pg,List.length_set]
theorem yI {p:List Int}:∀{k:Nat},(iS p k).1.length=p.length∧0≤(iS p k).2∧(iS p k).2≤k
 |0=>by simp[iS]
 |k+1=>by
  obtain⟨h1,h2,h3⟩:=yI (p:=p) (k:=k)
  rw[iS];split
  ·exact⟨h1,h2,by omega⟩
  ·exact⟨by rw[pg,h1],by simp only;omega,by simp only;omega⟩
def DU (p:List Int):Int:=if ae p=true then(iS p p.length).2 else -1
theorem DT {p:List Int}: -1≤DU p∧DU p≤8:=by
 unfold DU;split
 ·rename_i h
  have h8:=(aw h).1
  obtain⟨_,h2,h3⟩:=yI (p:=p) (k:=p.length);omega
 ·omega
theorem eN {m0:Bool} (p:List Int) (hl:p.length≤1048576):Fun Tryz.prog 44 [(.sl (.lent m0) (List.map (PV.int .i64) (p)))] [(.int .i64 (DU p))]:=by
 by_cases h:ae p=true
 ·obtain⟨h8,hq⟩:=aw h
  rw[DU,if_pos h]
  refine fO aR [2] Tryz.func44 ?_
  have cE1:= @ao
  refine ax @h ?_
  all_goals try(apply ai;repeat' first|exact ah|apply aa|(apply ak;intro zb hc)|(apply aj;intro zb)|intro j')<;>try apply al
  refine an (fun ms1 S1=>∃(k:Nat),S1.e 0=.p (.sl (.lent m0) (List.map (PV.int .i64) (p)))∧OwnL (S1.e 3) S1.h S1.n PV.bool (((iS p k).1).length) ((iS p k).1)∧S1.e 4=.p (.int .i64 ((iS p k).2))∧S1.e 14=.p (.int .i64 (p.length))∧S1.e 15=.p (.int .i64 (k))∧(k≤p.length)∧ms1=p.length - k) ((fun(k:Nat)=>p.length - k) (0)) ?_ ⟨0,dC trivial ?_⟩
  all_goals try(apply ai;repeat' first|exact ah|apply aa|(apply ak;intro zb hc)|(apply aj;intro zb)|intro j')<;>try apply al
  rintro ms1 S1 ⟨k,h1_0,o1_3,h1_4,h1_14,h1_15,c1_0,hm1⟩
  obtain⟨i1_3,h1_3,b1_3,l1_3⟩:=o1_3.out
  have ni1_3:=aG (x:=i1_3) (n:=S1.n)
  have fL1:=(aa h1_0 (aa h1_4 (aa h1_14 (aa h1_15 (aa h1_3 (aa b1_3 ni1_3))))))
  ·obtain⟨q1,q2,q3⟩:=yI (p:=p) (k:=k)
   by_cases hk:k<p.length
   ·have e0:iS p (k+1)=if(iS p k).1.getD k false=true then iS p k else(wc p p.length (iS p k).1 k,(iS p k).2+1):=rfl
    have e1:(iS p (k+1)).1=wc p p.length (iS p k).1 k:=by
     rw[e0];split
     ·rename_i g;exact(nQ g).symm
     ·rfl
    have e2:(iS p (k+1)).2=if(iS p k).1.getD k false=true then(iS p k).2 else(iS p k).2+1:=by rw[e0];split<;>rfl
    generalize hV:(iS p k).1=V at*
    generalize hC:(iS p k).2=C at*
    obtain⟨T,hT⟩:∃T,wc p p.length V k=T:=⟨_,rfl⟩
    rw[hT]at e1
    have hT8:T.length=p.length:=by rw[←hT,pg,q1]
    have fle:=Dq (v:=V)
    cases hb:V.getD k false with
    |true=>
     rw[hb,if_pos rfl]at e2
     rw[nQ hb]at hT
     refine ax (aa fL1 @hb) ?_
     all_goals try(apply ai;repeat' first|exact ah|apply aa|(apply ak;intro zb hc)|(apply aj;intro zb)|intro j')<;>try apply al
     refine an (fun ms2 S2=>∃(u:Nat),S2.e 0=.p (.sl (.lent m0) (List.map (PV.int .i64) (p)))∧OwnL (S2.e 3) S2.h S2.n PV.bool ((V).length) (V)∧S2.e 4=.p (.int .i64 (C))∧S2.e 14=.p (.int .i64 (p.length))∧S2.e 15=.p (.int .i64 (k))∧S2.e 5=.p (.int .i64 (k))∧S2.e 6=.p (.int .i64 (k))∧S1.n≤S2.n∧ms2=u) ((fun(u:Nat)=>u) (0)) ?_ ⟨0,dC fL1 ?_⟩
     all_goals try(apply ai;repeat' first|exact ah|apply aa|(apply ak;intro zb hc)|(apply aj;intro zb)|intro j')<;>try apply al
     rintro ms2 S2 ⟨u,h2_0,o2_3,h2_4,h2_14,h2_15,h2_5,h2_6,u2_0,hm2⟩
     obtain⟨i2_3,h2_3,b2_3,l2_3⟩:=o2_3.out
     have ni2_3:=aG (x:=i2_3) (n:=S2.n)
     have fL2:=(aa h2_0 (aa h2_4 (aa h2_14 (aa h2_15 (aa h2_5 (aa h2_6 (aa h2_3 (aa b2_3 ni2_3))))))))
     ·refine ax (aa fL2 @hb) ?_
      all_goals try(apply ai;repeat' first|exact ah|apply aa|(apply ak;intro zb hc)|(apply aj;intro zb)|intro j')<;>try apply al
      focus
       refine am ((fun(k:Nat)=>p.length - k) (k+1)) (dC fL2 ?_) ⟨k+1,dC fL2 ?_⟩
       all_goals try(apply ai;repeat' first|exact ah|apply aa|(apply ak;intro zb hc)|(apply aj;intro zb)|intro j')<;>try apply al
      all_goals(first|(rw[e1,←hT];done)|(rw[e2];done)|(rw[e1,hT8,q1];done)|skip)
    |false=>
     rw[hb,if_neg (by decide)]at e2
     refine ax (aa fL1 @hb) ?_
     all_goals try(apply ai;repeat' first|exact ah|apply aa|(apply ak;intro zb hc)|(apply aj;intro zb)|intro j')<;>try apply al
     refine an (fun ms3 S3=>∃(d:Nat) (v:List Bool) (x:Nat),S3.e 0=.p (.sl (.lent m0) (List.map (PV.int .i64) (p)))∧OwnL (S3.e 3) S3.h S3.n PV.bool ((v).length) (v)∧S3.e 4=.p (.int .i64 ((C+1)))∧S3.e 14=.p (.int .i64 (p.length))∧S3.e 15=.p (.int .i64 (k))∧S3.e 5=.p (.int .i64 (k))∧S3.e 6=.p (.int .i64 (x))∧(v.length=p.length)∧(x<p.length)∧(wc p d v x=T)∧(MX v≤d)∧S1.n≤S3.n∧ms3=d) ((fun(d:Nat) (v:List Bool) (x:Nat)=>d) (p.length) (V) (k)) ?_ ⟨p.length,V,k,dC fL1 ?_⟩
     all_goals try(apply ai;repeat' first|exact ah|apply aa|(apply ak;intro zb hc)|(apply aj;intro zb)|intro j')<;>try apply al
     rintro ms3 S3 ⟨d,v,x,h3_0,o3_3,h3_4,h3_14,h3_15,h3_5,h3_6,c3_0,c3_1,c3_2,c3_3,u3_0,hm3⟩
     obtain⟨i3_3,h3_3,b3_3,l3_3⟩:=o3_3.out
     have ni3_3:=aG (x:=i3_3) (n:=S3.n)
     have fL3:=(aa h3_0 (aa h3_4 (aa h3_14 (aa h3_15 (aa h3_5 (aa h3_6 (aa h3_3 (aa b3_3 ni3_3))))))))
     ·have x1:=(permB_iff.1 hq).1 _ (ar (l:=p) (i:=x) (d:=0) (by omega))
      cases hv:v.getD x false with
      |true=>
       rw[nQ hv]at c3_2
       refine ax (aa fL3 @hv) ?_
       all_goals try(apply ai;repeat' first|exact ah|apply aa|(apply ak;intro zb hc)|(apply aj;intro zb)|intro j')<;>try apply al
       focus
        refine am ((fun(k:Nat)=>p.length - k) (k+1)) (dC fL3 ?_) ⟨k+1,dC fL3 ?_⟩
        all_goals try(apply ai;repeat' first|exact ah|apply aa|(apply ak;intro zb hc)|(apply aj;intro zb)|intro j')<;>try apply al
       all_goals(first|(rw[e1,←c3_2];done)|(rw[e2];done)|(rw[e1,hT8,c3_0];done)|skip)
      |false=>
       have x2:=tO (by omega) hv
       obtain⟨d,rfl⟩:∃e,d=e+1:=⟨d - 1,by omega⟩
       rw[wc,if_neg (by rw[hv];decide)]at c3_2
       refine ax (aa fL3 @hv) ?_
       all_goals try(apply ai;repeat' first|exact ah|apply aa|(apply ak;intro zb hc)|(apply aj;intro zb)|intro j')<;>try apply al
       focus
        refine am ((fun(d:Nat) (v:List Bool) (x:Nat)=>d) (d) (v.set x true) ((p.getD x 0 - 1).toNat)) (dC fL3 ?_) ⟨d,v.set x true,(p.getD x 0 - 1).toNat,dC fL3 ?_⟩
        all_goals try(apply ai;repeat' first|exact ah|apply aa|(apply ak;intro zb hc)|(apply aj;intro zb)|intro j')<;>try apply al
   ·obtain rfl:k=p.length:=by omega
    refine ax fL1 ?_
    all_goals try(apply ai;repeat' first|exact ah|apply aa|(apply ak;intro zb hc)|(apply aj;intro zb)|intro j')<;>try apply al
  all_goals(first|(simp[iS];done)|skip)
 ·rw[DU,if_neg h]
  rw[Bool.not_eq_true]at h
  refine fO aR [2] Tryz.func44 ?_
  have cE1:= @ao
  refine ax @h ?_
  all_goals try(apply ai;repeat' first|exact ah|apply aa|(apply ak;intro zb hc)|(apply aj;intro zb)|intro j')<;>try apply al
theorem eJ {m0:Bool} (p:List Int) (hl:p.length≤1048576):Fun Tryz.prog 30 [(.sl (.lent m0) (List.map (PV.int .i64) (p)))] [(.int .i64 (DU p))]:=by
 by_cases h:ae p=true
 ·obtain⟨h8,hq⟩:=aw h
  rw[DU,if_pos h]
  refine fO aR [2] Tryz.func30 ?_
  have cE1:= @aq
  refine ax @h ?_
  all_goals try(apply ai;repeat' first|exact ah|apply aa|(apply ak;intro zb hc)|(apply aj;intro zb)|intro j')<;>try apply al
  refine an (fun ms1 S1=>∃(k:Nat),S1.e 0=.p (.sl (.lent m0) (List.map (PV.int .i64) (p)))∧S1.e 3=.p (.int .i64 ((iS p k).2))∧OwnL (S1.e 4) S1.h S1.n PV.bool (((iS p k).1).length) ((iS p k).1)∧S1.e 5=.p (.int .i64 (k))∧(k≤p.length)∧ms1=p.length - k) ((fun(k:Nat)=>p.length - k) (0)) ?_ ⟨0,dC trivial ?_⟩
  all_goals try(apply ai;repeat' first|exact ah|apply aa|(apply ak;intro zb hc)|(apply aj;intro zb)|intro j')<;>try apply al
  rintro ms1 S1 ⟨k,h1_0,h1_3,o1_4,h1_5,c1_0,hm1⟩
  obtain⟨i1_4,h1_4,b1_4,l1_4⟩:=o1_4.out
  have ni1_4:=aG (x:=i1_4) (n:=S1.n)
  have fL1:=(aa h1_0 (aa h1_3 (aa h1_5 (aa h1_4 (aa b1_4 ni1_4)))))
  ·obtain⟨q1,q2,q3⟩:=yI (p:=p) (k:=k)
   by_cases hk:k<p.length
   ·have e0:iS p (k+1)=if(iS p k).1.getD k false=true then iS p k else(wc p p.length (iS p k).1 k,(iS p k).2+1):=rfl
    have e1:(iS p (k+1)).1=wc p p.length (iS p k).1 k:=by
     rw[e0];split
     ·rename_i g;exact(nQ g).symm
     ·rfl
    have e2:(iS p (k+1)).2=if(iS p k).1.getD k false=true then(iS p k).2 else(iS p k).2+1:=by rw[e0];split<;>rfl
    generalize hV:(iS p k).1=V at*
    generalize hC:(iS p k).2=C at*
    obtain⟨T,hT⟩:∃T,wc p p.length V k=T:=⟨_,rfl⟩
    rw[hT]at e1
    have hT8:T.length=p.length:=by rw[←hT,pg,q1]
    have fle:=Dq (v:=V)
    cases hb:V.getD k false with
    |true=>
     rw[hb,if_pos rfl]at e2
     rw[nQ hb]at hT
     refine ax (aa fL1 @hb) ?_
     all_goals try(apply ai;repeat' first|exact ah|apply aa|(apply ak;intro zb hc)|(apply aj;intro zb)|intro j')<;>try apply al
     focus
      refine am ((fun(k:Nat)=>p.length - k) (k+1)) (dC fL1 ?_) ⟨k+1,dC fL1 ?_⟩
      all_goals try(apply ai;repeat' first|exact ah|apply aa|(apply ak;intro zb hc)|(apply aj;intro zb)|intro j')<;>try apply al
     all_goals(first|(rw[e1,←hT];done)|(rw[e2];done)|(rw[e1,hT8,q1];done)|skip)
    |false=>
     rw[hb,if_neg (by decide)]at e2
     refine ax (aa fL1 @hb) ?_
     all_goals try(apply ai;repeat' first|exact ah|apply aa|(apply ak;intro zb hc)|(apply aj;intro zb)|intro j')<;>try apply al
     refine an (fun ms3 S3=>∃(d:Nat) (v:List Bool) (x:Nat),S3.e 0=.p (.sl (.lent m0) (List.map (PV.int .i64) (p)))∧OwnL (S3.e 4) S3.h S3.n PV.bool ((v).length) (v)∧S3.e 3=.p (.int .i64 ((C+1)))∧S3.e 5=.p (.int .i64 (k))∧S3.e 6=.p (.int .i64 (x))∧(v.length=p.length)∧(x<p.length)∧(wc p d v x=T)∧(MX v≤d)∧S1.n≤S3.n∧ms3=d) ((fun(d:Nat) (v:List Bool) (x:Nat)=>d) (p.length) (V) (k)) ?_ ⟨p.length,V,k,dC fL1 ?_⟩
     all_goals try(apply ai;repeat' first|exact ah|apply aa|(apply ak;intro zb hc)|(apply aj;intro zb)|intro j')<;>try apply al
     rintro ms3 S3 ⟨d,v,x,h3_0,o3_4,h3_3,h3_5,h3_6,c3_0,c3_1,c3_2,c3_3,u3_0,hm3⟩
     obtain⟨i3_4,h3_4,b3_4,l3_4⟩:=o3_4.out
     have ni3_4:=aG (x:=i3_4) (n:=S3.n)
     have fL3:=(aa h3_0 (aa h3_3 (aa h3_5 (aa h3_6 (aa h3_4 (aa b3_4 ni3_4))))))
     ·have x1:=(permB_iff.1 hq).1 _ (ar (l:=p) (i:=x) (d:=0) (by omega))
      cases hv:v.getD x false with
      |true=>
       rw[nQ hv]at c3_2
       refine ax (aa fL3 @hv) ?_
       all_goals try(apply ai;repeat' first|exact ah|apply aa|(apply ak;intro zb hc)|(apply aj;intro zb)|intro j')<;>try apply al
       focus
        refine am ((fun(k:Nat)=>p.length - k) (k+1)) (dC fL3 ?_) ⟨k+1,dC fL3 ?_⟩
        all_goals try(apply ai;repeat' first|exact ah|apply aa|(apply ak;intro zb hc)|(apply aj;intro zb)|intro j')<;>try apply al
       all_goals(first|(rw[e1,←c3_2];done)|(rw[e2];done)|(rw[e1,hT8,c3_0];done)|skip)
      |false=>
       have x2:=tO (by omega) hv
       obtain⟨d,rfl⟩:∃e,d=e+1:=⟨d - 1,by omega⟩
       rw[wc,if_neg (by rw[hv];decide)]at c3_2
       refine ax (aa fL3 @hv) ?_
       all_goals try(apply ai;repeat' first|exact ah|apply aa|(apply ak;intro zb hc)|(apply aj;intro zb)|intro j')<;>try apply al
       focus
        refine am ((fun(d:Nat) (v:List Bool) (x:Nat)=>d) (d) (v.set x true) ((p.getD x 0 - 1).toNat)) (dC fL3 ?_) ⟨d,v.set x true,(p.getD x 0 - 1).toNat,dC fL3 ?_⟩
        all_goals try(apply ai;repeat' first|exact ah|apply aa|(apply ak;intro zb hc)|(apply aj;intro zb)|intro j')<;>try apply al
   ·obtain rfl:k=p.length:=by omega
    refine ax fL1 ?_
    all_goals try(apply ai;repeat' first|exact ah|apply aa|(apply ak;intro zb hc)|(apply aj;intro zb)|intro j')<;>try apply al
  all_goals(first|(simp[iS];done)|skip)
 ·rw[DU,if_neg h]
  rw[Bool.not_eq_true]at h
  refine fO aR [2] Tryz.func30 ?_
  have cE1:= @aq
  refine ax @h ?_
  all_goals try(apply ai;repeat' first|exact ah|apply aa|(apply ak;intro zb hc)|(apply aj;intro zb)|intro j')<;>try apply al
theorem lI {m0:Bool} (b:List UInt8):Fun Tryz.prog 9 [(.sl (.lent m0) (List.map jW (b)))] [(.bool (decide ((1048576:Int)<b.length)))]:=by
 refine fO aR [2] Tryz.func9 ?_
 refine ax trivial ?_
 all_goals try(apply ai;repeat' first|exact ah|apply aa|(apply ak;intro zb hc)|(apply aj;intro zb)|intro j')<;>try apply al
def Wv (p:List Int):List Int:=if ae p then bm p else[]
theorem i8 {m0:Bool} (p:List Int) (hl:p.length≤1048576):Fun Tryz.prog 49 [(.sl (.lent m0) (List.map (PV.int .i64) (p)))] [(.sl .own (List.map (PV.int .i64) (Wv p)))]:=by
 by_cases hp:ae p=true
 ·refine fO aR [2] Tryz.func49 ?_
  have cE1:= @ao;have cE2:= @ob
  refine ax @hp ?_
  all_goals try(apply ai;repeat' first|exact ah|apply aa|(apply ak;intro zb hc)|(apply aj;intro zb)|intro j')<;>try apply al
  rw[Wv,if_pos hp]
 ·rw[Bool.not_eq_true]at hp
  refine fO aR [2] Tryz.func49 ?_
  have cE1:= @ao;have cE2:= @ob
  refine ax @hp ?_
  all_goals try(apply ai;repeat' first|exact ah|apply aa|(apply ak;intro zb hc)|(apply aj;intro zb)|intro j')<;>try apply al
  rw[Wv,hp];rfl
def li:List Int→Int
 |[]=>0
 |x::l=>max x (li l)
theorem pZ {x:Int} (hx:0≤x):∀{l:List Int},li (l++[x])=max (li l) x
 |[]=>by simp only[List.nil_append,li];omega
 |y::l=>by rw[List.cons_append,li,li,pZ hx];omega
theorem jE:∀{l:List Int},0≤li l∧∀x∈l,x≤li l
 |[]=>by simp[li]
 |y::l=>by
  have h:=jE (l:=l)
  rw[li]
  refine⟨by omega,fun x hx=> ?_⟩
  rcases List.mem_cons.1 hx with q|q
  ·omega
  ·have:=h.2 x q;omega
theorem p6 {B:Int} (hB:0≤B):∀{l:List Int},(∀x∈l,x≤B)→li l≤B
 |[],_=>hB
 |y::l,h=>by
  have h1:=h y List.mem_cons_self
  have h2:=p6 hB fun x hx=>h x (List.mem_cons_of_mem _ hx)
  rw[li];omega
def Ij (R:Int→Int→Bool) (x:Int) (L:List (Int×Int)):Int:=L.foldl (fun v y=>if R x y.1=true then max v (y.2+1)else v) 1
def jv (R:Int→Int→Bool):List Int→List Int
 |[]=>[]
 |x::l=>Ij R x (l.zip (jv R l))::jv R l
theorem gQ {R:Int→Int→Bool}:∀{l:List Int},(jv R l).length=l.length
 |[]=>rfl
 |_::l=>by simp[jv,gQ (l:=l)]
theorem xt {R:Int→Int→Bool} {x m:Int} (hm:2≤m):∀{L:List (Int×Int)} {v:Int},m≤L.foldl (fun v y=>if R x y.1=true then max v (y.2+1)else v) v↔m≤v∨∃y∈L,R x y.1=true∧m≤y.2+1
 |[],v=>by simp
 |y::L,v=>by
  rw[List.foldl_cons,xt hm (L:=L)]
  constructor
  ·rintro(h|⟨z,h1,h2⟩)
   ·split at h
    ·rename_i g
     by_cases q:m≤v
     ·exact .inl q
     ·exact .inr ⟨y,by simp,g,by omega⟩
    ·exact .inl h
   ·exact .inr ⟨z,by simp[h1],h2⟩
  ·rintro(h|⟨z,h1,h2,h3⟩)
   ·exact .inl (by split<;>omega)
   ·rcases List.mem_cons.1 h1 with e|g
    ·subst e;exact .inl (by rw[if_pos h2];omega)
    ·exact .inr ⟨z,g,h2,h3⟩
theorem D1 {R:Int→Int→Bool} {x:Int}:∀{L:List (Int×Int)} {v:Int},v≤L.foldl (fun v y=>if R x y.1=true then max v (y.2+1)else v) v
 |[],v=>Int.le_refl _
 |y::L,v=>by
  rw[List.foldl_cons]
  refine Int.le_trans ?_ (D1 (L:=L))
  split<;>omega
theorem yL {R:Int→Int→Bool} (tr:∀a b c,R a b=true→R b c=true→R a c=true):∀{l:List Int} {m:Nat},(∃v∈jv R l,(m:Int)+1≤v)↔∃s:List Int,s.length=m+1∧s.Sublist l∧s.Pairwise (fun a b=>R a b=true):=by
 intro l
 have key:∀{l:List Int} (i:Nat),i<l.length→∀m:Nat,((m:Int)+1≤(jv R l).getD i 0↔∃s:List Int,s.length=m∧(l.getD i 0::s).Sublist (l.drop i)∧(l.getD i 0::s).Pairwise (fun a b=>R a b=true)):=by
  intro l
  induction l with
  |nil=>intro i hi;simp at hi
  |cons x l ih=>
   intro i hi m
   cases i with
   |succ i=>
    have hi':i<l.length:=by simpa using hi
    simpa[jv]using ih i hi' m
   |zero=>
    have e1:(jv R (x::l)).getD 0 0=Ij R x (l.zip (jv R l)):=rfl
    have e2:(x::l).getD 0 0=x:=rfl
    rw[e1,e2,List.drop_zero]
    cases m with
    |zero=>
     have:=D1 (R:=R) (x:=x) (L:=l.zip (jv R l)) (v:=1)
     exact⟨fun _=>⟨[],rfl,by simp,by simp⟩,fun _=>by unfold Ij;omega⟩
    |succ m=>
     unfold Ij
     rw[xt (by omega)]
     constructor
     ·rintro(h|⟨y,h1,h2,h3⟩)
      ·omega
      ·obtain⟨j,hj,ej⟩:=List.getElem_of_mem h1
       rw[List.length_zip,gQ]at hj
       rw[List.getElem_zip]at ej
       have a1:l.getD j 0=y.1:=by rw[←ej,List.getD_eq_getElem?_getD,List.getElem?_eq_getElem (by omega)];rfl
       have a2:(jv R l).getD j 0=y.2:=by rw[←ej,List.getD_eq_getElem?_getD,List.getElem?_eq_getElem (by rw[gQ];omega)];rfl
       obtain⟨s,s1,s2,s3⟩:=(ih j (by omega) m).1 (by rw[a2];omega)
       rw[a1]at s2 s3
       refine⟨y.1::s,by simp[s1],(s2.trans (List.drop_sublist _ _)).cons_cons x,List.pairwise_cons.2 ⟨fun z hz=> ?_,s3⟩⟩
       rcases List.mem_cons.1 hz with e|g
       ·rw[e];exact h2
       ·exact tr _ _ _ h2 ((List.pairwise_cons.1 s3).1 z g)
     ·rintro⟨s,s1,s2,s3⟩
      match s,s1 with
      |y::s,s1=>
       have s2':(y::s).Sublist l:=List.cons_sublist_cons.1 s2
       have fnd:∀{l:List Int},(y::s).Sublist l→∃j,j<l.length∧l.getD j 0=y∧(y::s).Sublist (l.drop j):=fun {l} h=>by
        induction l with
        |nil=>cases h
        |cons z l ih2=>
         rcases List.sublist_cons_iff.1 h with g|⟨r,e,g⟩
         ·obtain⟨j,j1,j2,j3⟩:=ih2 g
          exact⟨j+1,by simpa using j1,by simpa using j2,by simpa using j3⟩
         ·cases e
          exact⟨0,by simp,rfl,by simpa using h⟩
       obtain⟨j,j1,j2,j3⟩:=fnd s2'
       obtain⟨p1,p2⟩:=List.pairwise_cons.1 s3
       have hv:=(ih j j1 m).2 ⟨s,by simpa using s1,by rw[j2];exact j3,by rw[j2];exact p2⟩
       refine .inr ⟨(y,(jv R l).getD j 0), ?_,p1 y (by simp),by simp only;omega⟩
       have hz:j<(l.zip (jv R l)).length:=by rw[List.length_zip,gQ];omega
       have:(l.zip (jv R l))[j]=(y,(jv R l).getD j 0):=by
        rw[List.getElem_zip]
        congr 1
        ·rw[←j2,List.getD_eq_getElem?_getD,List.getElem?_eq_getElem j1];rfl
        ·rw[List.getD_eq_getElem?_getD,List.getElem?_eq_getElem (by rw[gQ];omega)];rfl
       rw[←this];exact List.getElem_mem hz
 intro m
 constructor
 ·rintro⟨v,h1,h2⟩
  obtain⟨i,hi,e⟩:=List.getElem_of_mem h1
  rw[gQ]at hi
  have e':(jv R l).getD i 0=v:=by rw[List.getD_eq_getElem?_getD,List.getElem?_eq_getElem (by rw[gQ];omega)];exact e
  obtain⟨s,s1,s2,s3⟩:=(key i hi m).1 (by rw[e'];exact h2)
  exact⟨l.getD i 0::s,by simp[s1],s2.trans (List.drop_sublist _ _),s3⟩
 ·rintro⟨s,s1,s2,s3⟩
  match s,s1 with
  |y::s,s1=>
   have fnd:∀{l:List Int},(y::s).Sublist l→∃j,j<l.length∧l.getD j 0=y∧(y::s).Sublist (l.drop j):=fun {l} h=>by
    induction l with
    |nil=>cases h
    |cons z l ih2=>
     rcases List.sublist_cons_iff.1 h with g|⟨r,e,g⟩
     ·obtain⟨j,j1,j2,j3⟩:=ih2 g
      exact⟨j+1,by simpa using j1,by simpa using j2,by simpa using j3⟩
     ·cases e
      exact⟨0,by simp,rfl,by simpa using h⟩
   obtain⟨j,j1,j2,j3⟩:=fnd s2
   have hv:=(key j j1 m).2 ⟨s,by simpa using s1,by rw[j2];exact j3,by rw[j2];exact s3⟩
   exact⟨_,ar (by rw[gQ];exact j1),hv⟩
theorem tz {l:List Int} {m:Nat}:(m:Int)+1≤li l↔∃v∈l,(m:Int)+1≤v:=by
 constructor
 ·intro h
  refine Classical.byContradiction fun g=> ?_
  have:=p6 (B:=(m:Int)) (by omega) (l:=l) fun x hx=>by
   by_cases q:x≤m
   ·exact q
   ·exact absurd ⟨x,hx,by omega⟩ g
  omega
 ·rintro⟨v,h1,h2⟩
  have:=(jE (l:=l)).2 v h1;omega
def vZ (a b:Int):Bool:= !decide (b<a)
def sA (a b:Int):Bool:=decide (b<a)
theorem JI {p:List Int} (hp:p.Nodup):li (jv vZ p)=li (jv sA p.reverse):=by
 have key:∀m:Nat,(m:Int)+1≤li (jv vZ p)↔(m:Int)+1≤li (jv sA p.reverse):=fun m=>by
  rw[tz,tz,yL (fun a b c h1 h2=>by simp only[vZ,Bool.not_eq_true',decide_eq_false_iff_not]at*;omega),yL (fun a b c h1 h2=>by simp only[sA,decide_eq_true_eq]at*;omega)]
  constructor
  ·rintro⟨s,s1,s2,s3⟩
   refine⟨s.reverse,by simpa using s1,List.reverse_sublist.2 s2, ?_⟩
   rw[List.pairwise_reverse]
   have nd:s.Pairwise (·≠·):=List.nodup_iff_pairwise_ne.1 (hp.sublist s2)
   exact List.Pairwise.imp₂ (fun a b h1 h2=>by simp only[vZ,sA,Bool.not_eq_true',decide_eq_false_iff_not,decide_eq_true_eq]at*;omega) s3 nd
  ·rintro⟨s,s1,s2,s3⟩
   refine⟨s.reverse,by simpa using s1,by have:=List.reverse_sublist.2 s2;rwa [List.reverse_reverse]at this, ?_⟩
   rw[List.pairwise_reverse]
   exact List.Pairwise.imp (fun h=>by simp only[vZ,sA,Bool.not_eq_true',decide_eq_false_iff_not,decide_eq_true_eq]at*;omega) s3
 have h1:=(jE (l:=jv vZ p)).1
 have h2:=(jE (l:=jv sA p.reverse)).1
 have k1:=key ((li (jv vZ p)).toNat - 1)
 have k2:=key ((li (jv sA p.reverse)).toNat - 1)
 omega
def vU (p:List Int) (i:Nat):Bool:=decide (p.getD i 0<p.getD (i - 1) 0)==decide ((i:Int).tmod 2=1)
def ri (p:List Int):Bool:=ae p&&(List.range p.length).all fun i=>decide (i=0)||vU p i
theorem Em {p:List Int} {k:Nat} (hk:k<p.length) (h0:1≤k) (h:vU p k=false):ri p=false:=by
 rw[ri,Bool.and_eq_false_iff]
 refine .inr (List.all_eq_false.2 ⟨k,List.mem_range.2 hk, ?_⟩)
 rw[h,decide_eq_false (by omega)];decide
theorem yQ {p:List Int} (h:∀i,1≤i→i<p.length→vU p i=true):ri p=ae p:=by
 have:((List.range p.length).all fun i=>decide (i=0)||vU p i)=true:=List.all_eq_true.2 fun i hi=>by
  rw[List.mem_range]at hi
  by_cases h0:i=0
  ·rw[decide_eq_true h0];rfl
  ·rw[h i (by omega) hi,Bool.or_true]
 rw[ri,this,Bool.and_true]
theorem ge {m0:Bool} (p:List Int) (hp:p.length≤1048576):Fun Tryz.prog 83 [(.sl (.lent m0) (List.map (PV.int .i64) (p)))] [(.bool (ri p))]:=by
 refine fO aR [2] Tryz.func83 ?_
 have cE1:= @aq
 refine ax trivial ?_
 all_goals try(apply ai;repeat' first|exact ah|apply aa|(apply ak;intro zb hc)|(apply aj;intro zb)|intro j')<;>try apply al
 refine an (fun ms1 S1=>∃(k:Nat),S1.e 0=.p (.sl (.lent m0) (List.map (PV.int .i64) (p)))∧S1.e 3=.p (.int .i64 (k))∧(1≤k)∧(k≤p.length∨k=1)∧(∀i,1≤i→i<k→vU p i=true)∧ms1=p.length - k) ((fun(k:Nat)=>p.length - k) (1)) ?_ ⟨1,dC trivial ?_⟩
 all_goals try(apply ai;repeat' first|exact ah|apply aa|(apply ak;intro zb hc)|(apply aj;intro zb)|intro j')<;>try apply al
 rintro ms1 S1 ⟨k,h1_0,h1_3,c1_0,c1_1,c1_2,hm1⟩
 have fL1:=(aa h1_0 h1_3)
 by_cases hk:k<p.length
 ·have z:((k:Int) - 1).toNat=k - 1:=by omega
  cases ha:vU p k with
  |true=>
   have ha':(decide (p.getD k 0<p.getD (k - 1) 0)==decide ((k:Int).tmod 2=1))=true:=ha
   refine ax (aa fL1 (aa @ha' @z)) ?_
   all_goals try(apply ai;repeat' first|exact ah|apply aa|(apply ak;intro zb hc)|(apply aj;intro zb)|intro j')<;>try apply al
   focus
    refine am ((fun(k:Nat)=>p.length - k) (k+1)) (dC fL1 ?_) ⟨k+1,dC fL1 ?_⟩
    all_goals try(apply ai;repeat' first|exact ah|apply aa|(apply ak;intro zb hc)|(apply aj;intro zb)|intro j')<;>try apply al
   all_goals(first|(intro i h1 h2;by_cases e:i=k;(subst e;exact ha);exact c1_2 i h1 (by omega))|omega|skip)
  |false=>
   have ha':(decide (p.getD k 0<p.getD (k - 1) 0)==decide ((k:Int).tmod 2=1))=false:=ha
   rw[Em hk c1_0 ha]
   refine ax (aa fL1 (aa @ha' @z)) ?_
   all_goals try(apply ai;repeat' first|exact ah|apply aa|(apply ak;intro zb hc)|(apply aj;intro zb)|intro j')<;>try apply al
 ·rw[yQ fun i h1 h2=>c1_2 i h1 (by omega)]
  refine ax fL1 ?_
  all_goals try(apply ai;repeat' first|exact ah|apply aa|(apply ak;intro zb hc)|(apply aj;intro zb)|intro j')<;>try apply al
theorem bO {m0:Bool} (p:List Int) (hp:p.length≤1048576):Fun Tryz.prog 104 [(.sl (.lent m0) (List.map (PV.int .i64) (p)))] [(.bool (ri p))]:=by
 by_cases h:ae p=true
 ·refine fO aR [2] Tryz.func104 ?_
  have cE1:= @ao
  refine ax @h ?_
  all_goals try(apply ai;repeat' first|exact ah|apply aa|(apply ak;intro zb hc)|(apply aj;intro zb)|intro j')<;>try apply al
  refine an (fun ms1 S1=>∃(k:Nat),S1.e 0=.p (.sl (.lent m0) (List.map (PV.int .i64) (p)))∧S1.e 3=.p (.int .i64 (k))∧(1≤k)∧(k≤p.length∨k=1)∧(∀i,1≤i→i<k→vU p i=true)∧ms1=p.length - k) ((fun(k:Nat)=>p.length - k) (1)) ?_ ⟨1,dC trivial ?_⟩
  all_goals try(apply ai;repeat' first|exact ah|apply aa|(apply ak;intro zb hc)|(apply aj;intro zb)|intro j')<;>try apply al
  rintro ms1 S1 ⟨k,h1_0,h1_3,c1_0,c1_1,c1_2,hm1⟩
  have fL1:=(aa h1_0 h1_3)
  by_cases hk:k<p.length
  ·have z:((k:Int) - 1).toNat=k - 1:=by omega
   cases ha:vU p k with
   |true=>
    have ha':(decide (p.getD k 0<p.getD (k - 1) 0)==decide ((k:Int).tmod 2=1))=true:=ha
    refine ax (aa fL1 (aa @ha' @z)) ?_
    all_goals try(apply ai;repeat' first|exact ah|apply aa|(apply ak;intro zb hc)|(apply aj;intro zb)|intro j')<;>try apply al
    focus
     refine am ((fun(k:Nat)=>p.length - k) (k+1)) (dC fL1 ?_) ⟨k+1,dC fL1 ?_⟩
     all_goals try(apply ai;repeat' first|exact ah|apply aa|(apply ak;intro zb hc)|(apply aj;intro zb)|intro j')<;>try apply al
    all_goals(first|(intro i h1 h2;by_cases e:i=k;(subst e;exact ha);exact c1_2 i h1 (by omega))|omega|skip)
   |false=>
    have ha':(decide (p.getD k 0<p.getD (k - 1) 0)==decide ((k:Int).tmod 2=1))=false:=ha
    rw[Em hk c1_0 ha]
    refine ax (aa fL1 (aa @ha' @z)) ?_
    all_goals try(apply ai;repeat' first|exact ah|apply aa|(apply ak;intro zb hc)|(apply aj;intro zb)|intro j')<;>try apply al
  ·rw[yQ fun i h1 h2=>c1_2 i h1 (by omega),h]
   refine ax fL1 ?_
   all_goals try(apply ai;repeat' first|exact ah|apply aa|(apply ak;intro zb hc)|(apply aj;intro zb)|intro j')<;>try apply al
 ·rw[Bool.not_eq_true]at h
  have e:ri p=false:=by rw[ri,h];rfl
  rw[e]
  refine fO aR [2] Tryz.func104 ?_
  have cE1:= @ao
  refine ax @h ?_
  all_goals try(apply ai;repeat' first|exact ah|apply aa|(apply ak;intro zb hc)|(apply aj;intro zb)|intro j')<;>try apply al
def tG (p:List Int):Bool:=ae p&&decide (p=z7 p)
theorem gz {m0:Bool} (p:List Int) (hp:p.length≤1048576):Fun Tryz.prog 82 [(.sl (.lent m0) (List.map (PV.int .i64) (p)))] [(.bool (tG p))]:=by
 by_cases h:ae p=true
 ·obtain⟨h8,hq⟩:=aw h
  have i1:(z7 p).length=p.length:=mN
  rw[tG,h,Bool.true_and]
  refine fO aR [2] Tryz.func82 ?_
  have cE1:= @aq;have cE2:= @fR;have cE3:= @bo
  refine ax @h ?_
  all_goals try(apply ai;repeat' first|exact ah|apply aa|(apply ak;intro zb hc)|(apply aj;intro zb)|intro j')<;>try apply al
 ·rw[Bool.not_eq_true]at h
  rw[tG,h,Bool.false_and]
  refine fO aR [2] Tryz.func82 ?_
  have cE1:= @aq;have cE2:= @fR;have cE3:= @bo
  refine ax @h ?_
  all_goals try(apply ai;repeat' first|exact ah|apply aa|(apply ak;intro zb hc)|(apply aj;intro zb)|intro j')<;>try apply al
theorem bW {m0:Bool} (p:List Int) (hp:p.length≤1048576):Fun Tryz.prog 103 [(.sl (.lent m0) (List.map (PV.int .i64) (p)))] [(.bool (tG p))]:=by
 by_cases h:ae p=true
 ·obtain⟨h8,hq⟩:=aw h
  have i1:(z7 p).length=p.length:=mN
  rw[tG,h,Bool.true_and]
  refine fO aR [2] Tryz.func103 ?_
  have cE1:= @ao;have cE2:= @io;have cE3:= @br
  refine ax @h ?_
  all_goals try(apply ai;repeat' first|exact ah|apply aa|(apply ak;intro zb hc)|(apply aj;intro zb)|intro j')<;>try apply al
 ·rw[Bool.not_eq_true]at h
  rw[tG,h,Bool.false_and]
  refine fO aR [2] Tryz.func103 ?_
  have cE1:= @ao;have cE2:= @io;have cE3:= @br
  refine ax @h ?_
  all_goals try(apply ai;repeat' first|exact ah|apply aa|(apply ak;intro zb hc)|(apply aj;intro zb)|intro j')<;>try apply al
end Go.Gl
