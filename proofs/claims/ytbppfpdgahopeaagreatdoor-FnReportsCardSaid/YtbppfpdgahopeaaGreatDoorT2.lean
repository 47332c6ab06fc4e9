/-
  What the functions compute, and what the law asks of it: texts joined. Conditions: those that each lemma names.
-/
import Derived.Test.YtbppfpdgahopeaaGreatDoorT1
import Derived.Lib.Join
set_option linter.unusedSimpArgs false
set_option linter.unusedVariables false
set_option maxRecDepth 20000
set_option linter.unusedSectionVars false
set_option maxHeartbeats 16000000
namespace Go.Gl
open Go Go.Proofs
variable [Amb] [NoQ]
theorem aQ {m0:Bool} (l:List (List UInt8)) (sep:List UInt8) (h1:l.length≤1099511627776) (h2:(Lib.join l sep).length≤1099511627776):
  Fun Tryz.prog 51 [.sl (.lent m0) (List.map .str l),.str sep] [.str (Lib.join l sep)]:=by
 refine Fun.of_plain Tryz.func51 rfl rfl rfl ?_
 intro w F G vs _ hv
 simp only[RepL]at hv
 obtain⟨a,vs1,rfl,ha,b,vs2,rfl,hb,rfl⟩:=hv
 have hb:=uy hb
 subst hb
 have e1:(l.map fun s=>(⟨s.toArray⟩:ByteArray)).map (·.data.toList)=l:=by simp[Function.comp_def]
 by_cases hl:l=[]
 ·subst hl
  obtain⟨a',cap,rfl⟩:=B5 ha
  exact(Tryz.strings_Join_none a' cap _ w).mono fun e w' h=>⟨h.1.trans (by simp[Lib.join]),h.2▸Go.RowKit.Below.refl _ _⟩
 ·obtain⟨B,off,cap,rfl,hc1,_,hB,hcells⟩:=B3 ha hl
  have:=Tryz.strings_Join B off cap (l.map fun s=>(⟨s.toArray⟩:ByteArray)) ⟨sep.toArray⟩ w hcells hB (by simp;omega) (by simpa using hc1) (by rw[e1];simp only;simpa using(by omega:(Lib.join l sep).length≤140737488355328))
  rw[e1,List.length_map]at this
  simpa using this
theorem pT {n:Int}:∀{p seen:List Int},fW n seen p=true→∀v∈p,1≤v∧v≤n
 |[],_,_,v,h=>by simp at h
 |w::p,seen,h,v,hv=>by
  simp only[fW,Bool.and_eq_true,decide_eq_true_eq]at h
  rcases List.mem_cons.1 hv with rfl|hv
  ·exact⟨h.1.1.1,h.1.1.2⟩
  ·exact pT h.2 v hv
theorem mD {p:List Int} (h:aU p=true) {i:Nat} (hi:i<p.length):1≤p.getD i 0∧p.getD i 0≤p.length:=by
 have:=pT h (p.getD i 0) (by rw[List.getD_eq_getElem?_getD,List.getElem?_eq_getElem hi];simp)
 exact this
theorem aw {p:List Int} (h:ae p=true):p.length≤8∧aU p=true:=by
 simp only[ae,Bool.and_eq_true,decide_eq_true_eq]at h;exact h
def yM (v:Int):UInt8:=UInt8.ofNat (48+v).toNat
def yH:Nat→Nat→List UInt8→List UInt8
 |0,_,acc=>acc
 |f+1,m,acc=>if m=0 then acc else yH f (m/10) (yM ((m % 10:Nat):Int)::acc)
theorem DS {f m:Nat} {acc:List UInt8} (h:m≠0):yH (f+1) m acc=yH f (m/10) (yM ((m % 10:Nat):Int)::acc):=by rw[yH,if_neg h]
theorem vM:∀{f g m:Nat} {acc:List UInt8},m<2^f→m<2^g→yH f m acc=yH g m acc
 |0,0,m,acc,_,_=>rfl
 |0,g+1,m,acc,h,_=>by
  have:m=0:=by simp at h;omega
  subst this;rw[yH,yH,if_pos rfl]
 |f+1,0,m,acc,_,h=>by
  have:m=0:=by simp at h;omega
  subst this;rw[yH,yH,if_pos rfl]
 |f+1,g+1,m,acc,h,h'=>by
  rw[yH,yH]
  split
  ·rfl
  ·exact vM (by rw[Nat.pow_succ]at h;omega) (by rw[Nat.pow_succ]at h';omega)
def qR (m:Nat) (acc:List UInt8):List UInt8:=yH 64 m acc
theorem tW {acc:List UInt8}:qR 0 acc=acc:=by rw[qR,yH,if_pos rfl]
theorem kW {m:Nat} {acc:List UInt8} (h:m≠0) (hb:m<9223372036854775809):qR m acc=qR (m/10) (yM ((m % 10:Nat):Int)::acc):=by
 rw[qR,DS h,qR];exact vM (by omega) (by omega)
def fC (n:Int):List UInt8:=if n=0 then[48]else if n<0 then 45::qR n.natAbs []else qR n.natAbs []
theorem qu {n:Int} (h0:1≤n) (h1:n≤9):fC n=[yM n]:=by
 rw[fC,if_neg (by omega),if_neg (by omega),kW (by omega) (by omega),show n.natAbs/10=0 by omega,tW]
 congr 2;omega
theorem EF {P:Program} {sg:FuncId→List Bool} {h:Nat→Blk} {k:Nat} {ρ:Operand→AV} {C:R→Prop} {t t':TypeId} {x:Operand}:fY P sg ρ h k (.convert t t' x) C=gl P t t' k h (ρ x) C:=_root_.id rfl
attribute [local go_sem ↓] EF
theorem PX (x:Int):x=10*x.tdiv 10+x.tmod 10∧(0≤x→0≤x.tmod 10∧x.tmod 10≤9)∧(x≤0→ -9≤x.tmod 10∧x.tmod 10≤0):=by
 refine⟨by have:=Int.mul_tdiv_add_tmod x 10;omega,fun h=> ?_,fun h=> ?_⟩
 ·rw[Int.tmod_eq_emod_of_nonneg h];omega
 ·have e:x.tmod 10= -((-x).tmod 10):=by rw[Int.neg_tmod,Int.neg_neg]
  rw[e,Int.tmod_eq_emod_of_nonneg (by omega)];omega
theorem uE {a b l:Nat} (h:10*b≤a) (hb:a*10^l≤9223372036854775808):b*10^(l+1)≤9223372036854775808:=by
 refine Nat.le_trans ?_ hb
 rw[Nat.pow_succ,Nat.mul_comm (10^l) 10,←Nat.mul_assoc,Nat.mul_comm b 10]
 exact Nat.mul_le_mul_right _ h
theorem PW:(10:Nat)^19=10000000000000000000:=by decide
theorem cR (n:Int) (h0: -9223372036854775808≤n) (h1:n≤9223372036854775807):Fun Tryz.prog 27 [(.int .i64 (n))] [(.str (fC n))]:=by
 refine fO aR [2] Tryz.func27 ?_
 have u3:(Tryz.prog.underlying 3).isSome=true:=by kernel_rfl
 refine dE trivial ?_
 all_goals try(apply ai;repeat' first|exact ah|apply aa|(apply ak;intro zb hc)|(apply aj;intro zb)|intro j')<;>try apply al
 ·rw[hc];rfl
 ·refine an (fun ms1 S1=>∃(x:Int) (s:List UInt8),S1.e 0=.p (.int .i64 (x))∧S1.e 3=.p (.bool (decide (n<0)))∧S1.e 4=.p (.str (s))∧(-9223372036854775808≤x)∧(x≤9223372036854775807)∧(qR x.natAbs s=qR n.natAbs [])∧(x.natAbs*10^s.length≤9223372036854775808)∧(s.length≤19)∧(n<0→x≤0)∧(0<n→0≤x)∧ms1=x.natAbs) ((fun(x:Int) (s:List UInt8)=>x.natAbs) (n) ([])) ?_ ⟨n,[],dI trivial ?_⟩
  all_goals try(apply ai;repeat' first|exact ah|apply aa|(apply ak;intro zb hc)|(apply aj;intro zb)|intro j')<;>try apply al
  rintro ms1 S1 ⟨x,s,h1_0,h1_3,h1_4,c1_0,c1_1,c1_2,c1_3,c1_4,c1_5,c1_6,hm1⟩
  have fL1:=(aa h1_0 (aa h1_3 h1_4))
  have t1:=PX x
  have t2:x≠0→s.length≤18:=fun hx=>by
   by_cases h:s.length≤18
   ·exact h
   ·have h2:s.length=19:=by omega
    rw[h2,PW]at c1_3;omega
  refine dE (aa fL1 @u3) ?_
  all_goals try(apply ai;repeat' first|exact ah|apply aa|(apply ak;intro zb hc)|(apply aj;intro zb)|intro j')<;>try apply al
  all_goals try (rw[iN];omega)
  all_goals try (rw[oC];omega)
  all_goals try exact gZ
  ·focus
    refine am ((fun(x:Int) (s:List UInt8)=>x.natAbs) (x.tdiv 10) (yM (0 - x.tmod 10)::s)) (dC fL1 ?_) ⟨x.tdiv 10,yM (0 - x.tmod 10)::s,dC fL1 ?_⟩
    all_goals try(apply ai;repeat' first|exact ah|apply aa|(apply ak;intro zb hc)|(apply aj;intro zb)|intro j')<;>try apply al
   all_goals try omega
   ·rw[←c1_2,kW (m:=x.natAbs) (by omega) (by omega)]
    have e1:x.natAbs/10=(x.tdiv 10).natAbs:=by omega
    have e2:((x.natAbs % 10:Nat):Int)=0 - x.tmod 10:=by omega
    rw[e1,e2]
   ·exact uE (by omega) c1_3
  ·focus
    refine am ((fun(x:Int) (s:List UInt8)=>x.natAbs) (x.tdiv 10) (yM (x.tmod 10)::s)) (dC fL1 ?_) ⟨x.tdiv 10,yM (x.tmod 10)::s,dC fL1 ?_⟩
    all_goals try(apply ai;repeat' first|exact ah|apply aa|(apply ak;intro zb hc)|(apply aj;intro zb)|intro j')<;>try apply al
   all_goals try omega
   ·rw[←c1_2,kW (m:=x.natAbs) (by omega) (by omega)]
    have e1:x.natAbs/10=(x.tdiv 10).natAbs:=by omega
    have e2:((x.natAbs % 10:Nat):Int)=x.tmod 10:=by omega
    rw[e1,e2]
   ·exact uE (by omega) c1_3
  ·obtain rfl:x=0:=by omega
   rw[fC,if_neg (by omega),if_pos (by omega),←c1_2,Int.natAbs_zero,tW]
  ·obtain rfl:x=0:=by omega
   rw[fC,if_neg (by omega),if_neg (by omega),←c1_2,Int.natAbs_zero,tW]
theorem kR {l:List (List UInt8)} {sep:List UInt8} {k:Nat} (hk:k<l.length):Lib.join (l.take (k+1)) sep=(if k=0 then[]else Lib.join (l.take k) sep++sep)++l.getD k []:=by
 match l,k,hk with
 |x::r,0,_=>simp[Lib.join_one]
 |x::r,k+1,hk=>
  have hk':k<r.length:=by simpa using hk
  rw[List.take_succ_cons,List.take_succ_cons,Lib.join_cons,Lib.join_cons,Lib.joinTail_take_succ sep r k (r.getD k []) (by rw[List.getD_eq_getElem?_getD,List.getElem?_eq_getElem hk'];rfl)]
  simp
theorem fx {l:List (List UInt8)} {sep:List UInt8} {k:Nat}:(Lib.join (l.take k) sep).length≤(Lib.join l sep).length:=by
 match l,k with
 |[],k=>simp
 |x::r,0=>simp[Lib.join_nil]
 |x::r,k+1=>
  rw[List.take_succ_cons,Lib.join_cons,Lib.join_cons,List.length_append,List.length_append]
  have:=Lib.joinTail_take_le sep r k
  omega
theorem eW {n:Nat} {sep:List UInt8}:∀{l:List (List UInt8)},(∀x∈l,x.length≤n)→(Lib.join l sep).length≤l.length*(n+sep.length):=by
 intro l
 have key:∀{l:List (List UInt8)},(∀x∈l,x.length≤n)→(Lib.joinTail sep l).length≤l.length*(n+sep.length):=by
  intro l
  induction l with
  |nil=>intro _;simp[Lib.joinTail]
  |cons x r ih=>
   intro h
   have h1:=ih fun y hy=>h y (by simp[hy])
   have h2:=h x (by simp)
   have e:(Lib.joinTail sep (x::r))=sep++x++Lib.joinTail sep r:=by simp[Lib.joinTail]
   rw[e,List.length_append,List.length_append,List.length_cons,Nat.succ_mul];omega
 cases l with
 |nil=>intro _;simp[Lib.join_nil]
 |cons x r=>
  intro h
  have h1:=key (l:=r) fun y hy=>h y (by simp[hy])
  have h2:=h x (by simp)
  rw[Lib.join_cons,List.length_append,List.length_cons,Nat.succ_mul];omega
theorem Bc {s:List UInt8}:List.map (fun b:UInt8=>PV.int .u8 (b.toNat:Int)) s=List.map jW s:=_root_.id rfl
attribute [local go_sem] Bc
theorem bZ {m0:Bool} (l:List (List UInt8)) (sep:List UInt8) (h1:l.length≤1099511627776) (h2:(Lib.join l sep).length≤1099511627776):Fun Tryz.prog 59 [(.sl (.lent m0) (List.map PV.str (l))),(.str (sep))] [(.str (Lib.join l sep))]:=by
 refine fO aR [4] Tryz.func59 ?_
 refine dE trivial ?_
 all_goals try(apply ai;repeat' first|exact ah|apply aa|(apply ak;intro zb hc)|(apply aj;intro zb)|intro j')<;>try apply al
 refine an (fun ms1 S1=>∃(k:Nat),S1.e 0=.p (.sl (.lent m0) (List.map PV.str (l)))∧S1.e 1=.p (.str (sep))∧OwnL (S1.e 5) S1.h S1.n jW ((Lib.join (l.take k) sep).length) (Lib.join (l.take k) sep)∧S1.e 6=.p (.int .i64 (k))∧(k≤l.length)∧ms1=l.length - k) ((fun(k:Nat)=>l.length - k) (0)) ?_ ⟨0,jK trivial ?_⟩
 all_goals try(apply ai;repeat' first|exact ah|apply aa|(apply ak;intro zb hc)|(apply aj;intro zb)|intro j')<;>try apply al
 rintro ms1 S1 ⟨k,h1_0,h1_1,o1_5,h1_6,c1_0,hm1⟩
 obtain⟨i1_5,h1_5,b1_5,l1_5⟩:=o1_5.out
 have ni1_5:=aG (x:=i1_5) (n:=S1.n)
 have fL1:=(aa h1_0 (aa h1_1 (aa h1_6 (aa h1_5 (aa b1_5 ni1_5)))))
 have b2:=fx (l:=l) (sep:=sep) (k:=k+1)
 have b1:k<l.length→0<k→(Lib.join (l.take k) sep).length+(sep.length+(l.getD k []).length)≤1099511627776:=fun h h0=>by
  rw[kR h,if_neg (by omega)]at b2;simp only[List.length_append]at b2;omega
 have b0:k<l.length→k=0→(Lib.join (l.take k) sep).length+(l.getD k []).length≤1099511627776:=fun h h0=>by
  subst h0;rw[kR h,if_pos rfl]at b2;simp[Lib.join_nil]at b2 ⊢;omega
 refine ax (aa fL1 (aa @aap @Nat.add_assoc)) ?_
 all_goals try(apply ai;repeat' first|exact ah|apply aa|(apply ak;intro zb hc)|(apply aj;intro zb)|intro j')<;>try apply al
 ·focus
   refine am ((fun(k:Nat)=>l.length - k) (k+1)) (dC fL1 ?_) ⟨k+1,dC fL1 ?_⟩
   all_goals try(apply ai;repeat' first|exact ah|apply aa|(apply ak;intro zb hc)|(apply aj;intro zb)|intro j')<;>try apply al
  all_goals(rw[kR (by omega),if_neg (by omega)];simp only[List.length_append,List.append_assoc,Nat.add_assoc])
 ·focus
   refine am ((fun(k:Nat)=>l.length - k) (k+1)) (dC fL1 ?_) ⟨k+1,dC fL1 ?_⟩
   all_goals try(apply ai;repeat' first|exact ah|apply aa|(apply ak;intro zb hc)|(apply aj;intro zb)|intro j')<;>try apply al
  all_goals(obtain rfl:k=0:=by omega)
  all_goals(rw[kR (by omega),if_pos rfl];simp[Lib.join_nil])
 ·rw[List.take_of_length_le (by omega)]
def jx (p:List Int):List UInt8:=if ae p=true then(if p=[]then[45]else p.map yM)else[]
theorem lW (p:List Int):(jx p).length≤8:=by
 unfold jx;split
 ·rename_i h
  have:=(aw h).1
  split<;>simp;omega
 ·simp
theorem bY {m0:Bool} (p:List Int) (hl:p.length≤1048576):Fun Tryz.prog 58 [(.sl (.lent m0) (List.map (PV.int .i64) (p)))] [(.str (jx p))]:=by
 refine fO aR [2] Tryz.func58 ?_
 have cE1:= @aq;have cE2:= @cR
 refine ax trivial ?_
 all_goals try(apply ai;repeat' first|exact ah|apply aa|(apply ak;intro zb hc;repeat (have zc:=zb.1;replace zb:=zb.2))|(apply aj;intro zb)|intro j')<;>try apply al
 ·rw[jx,if_neg (by rw[hc];decide)]
 ·rw[jx,if_pos (by assumption),if_pos (List.eq_nil_of_length_eq_zero (by omega))]
 ·have hp:ae p=true:=by assumption
  have hn:¬(p.length:Int)=0:=by assumption
  have pf:=aw hp
  refine an (fun ms1 S1=>∃(k:Nat),S1.e 0=.p (.sl (.lent m0) (List.map (PV.int .i64) (p)))∧S1.e 3=.p (.str ((p.take k).map yM))∧S1.e 4=.p (.int .i64 (k))∧(k≤p.length)∧ms1=p.length - k) ((fun(k:Nat)=>p.length - k) (0)) ?_ ⟨0,jK trivial ?_⟩
  all_goals try(apply ai;repeat' first|exact ah|apply aa|(apply ak;intro zb hc;repeat (have zc:=zb.1;replace zb:=zb.2))|(apply aj;intro zb)|intro j')<;>try apply al
  rintro ms1 S1 ⟨k,h1_0,h1_3,h1_4,c1_0,hm1⟩
  have fL1:=(aa h1_0 (aa h1_3 h1_4))
  have q:k<p.length→1≤p.getD k 0∧p.getD k 0≤8:=fun h=>by have:=mD pf.2 h;omega
  refine ax fL1 ?_
  all_goals try(apply ai;repeat' first|exact ah|apply aa|(apply ak;intro zb hc;repeat (have zc:=zb.1;replace zb:=zb.2))|(apply aj;intro zb)|intro j')<;>try apply al
  ·rw[qu (q (by omega)).1 (by have:=(q (by omega)).2;omega)];simp;omega
  ·focus
    refine am ((fun(k:Nat)=>p.length - k) (k+1)) (dC fL1 ?_) ⟨k+1,dC fL1 ?_⟩
    all_goals try(apply ai;repeat' first|exact ah|apply aa|(apply ak;intro zb hc;repeat (have zc:=zb.1;replace zb:=zb.2))|(apply aj;intro zb)|intro j')<;>try apply al
   rw[qu (q (by omega)).1 (by have:=(q (by omega)).2;omega),az (d:=0) (by omega),List.map_append];rfl
  ·rw[jx,if_pos hp,if_neg (fun e=>hn (by rw[e];rfl)),List.take_of_length_le (by omega)]
theorem cG {m0:Bool} (p:List Int) (hl:p.length≤1048576):Fun Tryz.prog 57 [(.sl (.lent m0) (List.map (PV.int .i64) (p)))] [(.str (jx p))]:=by
 refine fO aR [2] Tryz.func57 ?_
 have cE1:= @ao
 refine ax trivial ?_
 all_goals try(apply ai;repeat' first|exact ah|apply aa|(apply ak;intro zb hc;repeat (have zc:=zb.1;replace zb:=zb.2))|(apply aj;intro zb)|intro j')<;>try apply al
 ·rw[jx,if_neg (by rw[hc];decide)]
 ·rw[jx,if_pos (by assumption),if_pos (List.eq_nil_of_length_eq_zero (by omega))]
 ·have hp:ae p=true:=by assumption
  have hn:¬(p.length:Int)=0:=by assumption
  have pf:=aw hp
  refine an (fun ms1 S1=>∃(k:Nat),S1.e 13=.p (.sl (.lent m0) (List.map (PV.int .i64) (p)))∧S1.e 14=.p (.int .i64 (p.length))∧OwnL (S1.e 3) S1.h S1.n jW (((p.take k).map yM).length) ((p.take k).map yM)∧S1.e 15=.p (.int .i64 (k))∧(k≤p.length)∧ms1=p.length - k) ((fun(k:Nat)=>p.length - k) (0)) ?_ ⟨0,dI trivial ?_⟩
  all_goals try(apply ai;repeat' first|exact ah|apply aa|(apply ak;intro zb hc;repeat (have zc:=zb.1;replace zb:=zb.2))|(apply aj;intro zb)|intro j')<;>try apply al
  rintro ms1 S1 ⟨k,h1_13,h1_14,o1_3,h1_15,c1_0,hm1⟩
  obtain⟨i1_3,h1_3,b1_3,l1_3⟩:=o1_3.out
  have ni1_3:=aG (x:=i1_3) (n:=S1.n)
  have fL1:=(aa h1_13 (aa h1_14 (aa h1_15 (aa h1_3 (aa b1_3 ni1_3)))))
  have q:k<p.length→1≤p.getD k 0∧p.getD k 0≤8:=fun h=>by have:=mD pf.2 h;omega
  have u3:(Tryz.prog.underlying 3).isSome=true:=by kernel_rfl
  refine dE (aa fL1 @u3) ?_
  all_goals try(apply ai;repeat' first|exact ah|apply aa|(apply ak;intro zb hc;repeat (have zc:=zb.1;replace zb:=zb.2))|(apply aj;intro zb)|intro j')<;>try apply al
  all_goals try have q1:=q (by omega)
  all_goals try (rw[oC];omega)
  all_goals try exact gZ
  ·focus
    refine am ((fun(k:Nat)=>p.length - k) (k+1)) (dC fL1 ?_) ⟨k+1,dC fL1 ?_⟩
    all_goals try(apply ai;repeat' first|exact ah|apply aa|(apply ak;intro zb hc;repeat (have zc:=zb.1;replace zb:=zb.2))|(apply aj;intro zb)|intro j')<;>try apply al
   rw[JJ (by omega) (by omega),az (d:=0) (by omega)];simp only[List.map_append,List.map_cons,List.map_nil];rfl
  ·rw[jx,if_pos hp,if_neg (fun e=>hn (by rw[e];rfl)),List.take_of_length_le (by omega)]
def wh (L:List (List Int)):List UInt8:=if L=[]then[45]else Lib.join (L.map jx) [32]
theorem Bd {L:List (List Int)}:∀x∈L.map jx,x.length≤8:=fun x hx=>by
 rw[List.mem_map]at hx;obtain⟨p,_,rfl⟩:=hx;exact lW p
theorem uf {L:List (List Int)}:(Lib.join (L.map jx) [32]).length≤L.length*9:=by
 have:=eW (sep:=[32]) (Bd (L:=L))
 simpa using this
theorem dO {e0 m0:Bool} (L:List (List Int)) (hL:L.length≤1048576) (hl:∀l∈L,l.length≤1048576):Fun Tryz.prog 15 [(.sl (.lent m0) (List.map (bt e0) (L)))] [(.str (wh L))]:=by
 refine fO aR [2] Tryz.func15 ?_
 have cE1:= @bY;have cE2:= @bZ
 have b:=uf (L:=L)
 refine dE trivial ?_
 all_goals try(apply ai;repeat' first|exact ah|apply aa|(apply ak;intro zb hc)|(apply aj;intro zb)|intro j')<;>try apply al
 refine an (fun ms1 S1=>∃(k:Nat),S1.e 0=.p (.sl (.lent m0) (List.map (bt e0) (L)))∧OwnL (S1.e 3) S1.h S1.n PV.str (((L.take k).map jx).length) ((L.take k).map jx)∧S1.e 4=.p (.int .i64 (k))∧(k≤L.length)∧ms1=L.length - k) ((fun(k:Nat)=>L.length - k) (0)) ?_ ⟨0,jK trivial ?_⟩
 all_goals try(apply ai;repeat' first|exact ah|apply aa|(apply ak;intro zb hc)|(apply aj;intro zb)|intro j')<;>try apply al
 rintro ms1 S1 ⟨k,h1_0,o1_3,h1_4,c1_0,hm1⟩
 obtain⟨i1_3,h1_3,b1_3,l1_3⟩:=o1_3.out
 have ni1_3:=aG (x:=i1_3) (n:=S1.n)
 have fL1:=(aa h1_0 (aa h1_4 (aa h1_3 (aa b1_3 ni1_3))))
 refine ax fL1 ?_
 all_goals try(apply ai;repeat' first|exact ah|apply aa|(apply ak;intro zb hc)|(apply aj;intro zb)|intro j')<;>try apply al
 ·exact hl _ (ar hc)
 ·focus
   refine am ((fun(k:Nat)=>L.length - k) (k+1)) (dC fL1 ?_) ⟨k+1,dC fL1 ?_⟩
   all_goals try(apply ai;repeat' first|exact ah|apply aa|(apply ak;intro zb hc)|(apply aj;intro zb)|intro j')<;>try apply al
  rw[az (d:=[]) (by omega),List.map_append];rfl
 ·rw[List.take_of_length_le (by omega)]at hc
  rw[wh,if_pos (List.eq_nil_of_length_eq_zero (by omega))]
 ·rw[List.take_of_length_le (by omega)];omega
 ·rw[List.take_of_length_le (by omega)]at hc
  rw[wh,if_neg (fun e=>hc (by rw[e];rfl)),List.take_of_length_le (by omega)]
theorem dT {e0 m0:Bool} (L:List (List Int)) (hL:L.length≤1048576) (hl:∀l∈L,l.length≤1048576):Fun Tryz.prog 14 [(.sl (.lent m0) (List.map (bt e0) (L)))] [(.str (wh L))]:=by
 refine fO aR [2] Tryz.func14 ?_
 have cE1:= @cG;have cE2:= @aQ
 have b:=uf (L:=L)
 refine dE trivial ?_
 all_goals try(apply ai;repeat' first|exact ah|apply aa|(apply ak;intro zb hc;repeat (have zc:=zb.1;replace zb:=zb.2))|(apply aj;intro zb)|intro j')<;>try apply al
 ·rw[wh,if_pos (List.eq_nil_of_length_eq_zero (by omega))]
 have hn:¬(L.length:Int)=0:=by assumption
 refine an (fun ms1 S1=>∃(k:Nat),S1.e 10=.p (.sl (.lent m0) (List.map (bt e0) (L)))∧S1.e 11=.p (.int .i64 (L.length))∧OwnL (S1.e 3) S1.h S1.n PV.str (((L.take k).map jx).length) ((L.take k).map jx)∧S1.e 12=.p (.int .i64 (k))∧(k≤L.length)∧ms1=L.length - k) ((fun(k:Nat)=>L.length - k) (0)) ?_ ⟨0,jK trivial ?_⟩
 all_goals try(apply ai;repeat' first|exact ah|apply aa|(apply ak;intro zb hc;repeat (have zc:=zb.1;replace zb:=zb.2))|(apply aj;intro zb)|intro j')<;>try apply al
 rintro ms1 S1 ⟨k,h1_10,h1_11,o1_3,h1_12,c1_0,hm1⟩
 obtain⟨i1_3,h1_3,b1_3,l1_3⟩:=o1_3.out
 have ni1_3:=aG (x:=i1_3) (n:=S1.n)
 have fL1:=(aa h1_10 (aa h1_11 (aa h1_12 (aa h1_3 (aa b1_3 ni1_3)))))
 refine ax fL1 ?_
 all_goals try(apply ai;repeat' first|exact ah|apply aa|(apply ak;intro zb hc;repeat (have zc:=zb.1;replace zb:=zb.2))|(apply aj;intro zb)|intro j')<;>try apply al
 ·exact hl _ (ar hc)
 ·focus
   refine am ((fun(k:Nat)=>L.length - k) (k+1)) (dC fL1 ?_) ⟨k+1,dC fL1 ?_⟩
   all_goals try(apply ai;repeat' first|exact ah|apply aa|(apply ak;intro zb hc;repeat (have zc:=zb.1;replace zb:=zb.2))|(apply aj;intro zb)|intro j')<;>try apply al
  rw[az (d:=[]) (by omega),List.map_append];rfl
 ·rw[List.take_of_length_le (by omega)];omega
 ·rw[wh,if_neg (fun e=>hn (by rw[e];rfl)),List.take_of_length_le (by omega)]
end Go.Gl
namespace Go.Gl
open Go Go.Proofs
variable [Amb]
def fF (a b:Int):Int:=if a<b then -1 else if b<a then 1 else 0
def dD:List Int→List Int→Int
 |[],[]=>0
 |[],_::_=> -1
 |_::_,[]=>1
 |a::x,b::y=>if fF a b≠0 then fF a b else dD x y
def oL (p q:List Int):Int:=if fF p.length q.length≠0 then fF p.length q.length else dD p q
theorem cmpI_0 {a b:Int}:fF a b=0↔a=b:=by
 unfold fF;split
 ·omega
 ·split<;>omega
def FA:List Int→Int
 |[]=>0
 |x::l=>if x≠0 then x else FA l
theorem Ie {a b:Int} (h:a<b): -1=fF a b:=by rw[fF,if_pos h]
theorem If {a b:Int} (h:b<a):1=fF a b:=by rw[fF,if_neg (by omega),if_pos h]
theorem jR (x:Int):Fun Tryz.prog 210 [(.int .i64 (x))] [(.bool (false))]:=by
 refine fO aR [2] Tryz.func210 ?_
 refine ax trivial ?_
 all_goals try(apply ai;repeat' first|exact ah|apply aa|(apply ak;intro zb hc)|(apply aj;intro zb)|intro j')<;>try apply al
theorem fE (a b:Int):Fun Tryz.prog 185 [(.int .i64 (a)),(.int .i64 (b))] [(.int .i64 (fF a b))]:=by
 refine fO aR [4] Tryz.func185 ?_
 have cE1:= @jR
 refine ax trivial ?_
 all_goals try(apply ai;repeat' first|exact ah|apply aa|(apply ak;intro zb hc)|(apply aj;intro zb)|intro j')<;>try apply al
 ·exact Ie hc
 ·exact If hc
 ·rw[fF,if_neg (by omega),if_neg (by omega)]
theorem ew {m0 m1:Bool} (a b:List Int) (ha:a.length≤1099511627776) (hb:b.length≤1099511627776):Fun Tryz.prog 186 [(.sl (.lent m0) (List.map (PV.int .i64) (a))),(.sl (.lent m1) (List.map (PV.int .i64) (b)))] [(.int .i64 (dD a b))]:=by
 refine fO aR [4] Tryz.func186 ?_
 have cE1:= @fE
 refine ax trivial ?_
 all_goals try(apply ai;repeat' first|exact ah|apply aa|(apply ak;intro zb hc)|(apply aj;intro zb)|intro j')<;>try apply al
 refine an (fun ms1 S1=>∃(k:Nat),S1.e 1=.p (.sl (.lent m1) (List.map (PV.int .i64) (b)))∧S1.e 0=.p (.sl (.lent m0) (List.map (PV.int .i64) (a)))∧S1.e 9=.p (.sl (.lent m0) (List.map (PV.int .i64) (a)))∧S1.e 10=.p (.int .i64 (a.length))∧S1.e 11=.p (.int .i64 (k))∧(k≤a.length)∧(k≤b.length)∧(dD a b=dD (a.drop k) (b.drop k))∧ms1=a.length - k) ((fun(k:Nat)=>a.length - k) (0)) ?_ ⟨0,jK trivial ?_⟩
 all_goals try(apply ai;repeat' first|exact ah|apply aa|(apply ak;intro zb hc)|(apply aj;intro zb)|intro j')<;>try apply al
 rintro ms1 S1 ⟨k,h1_1,h1_0,h1_9,h1_10,h1_11,c1_0,c1_1,c1_2,hm1⟩
 have fL1:=(aa h1_1 (aa h1_0 (aa h1_9 (aa h1_10 h1_11))))
 refine ax fL1 ?_
 all_goals try(apply ai;repeat' first|exact ah|apply aa|(apply ak;intro zb hc)|(apply aj;intro zb)|intro j')<;>try apply al
 ·rw[c1_2,aY (by omega),List.drop_of_length_le (l:=b) (by omega),dD]
 ·rw[c1_2,aY (by omega),aY (s:=b) (by omega),dD,if_pos hc]
 ·focus
   refine am ((fun(k:Nat)=>a.length - k) (k+1)) (dC fL1 ?_) ⟨k+1,dC fL1 ?_⟩
   all_goals try(apply ai;repeat' first|exact ah|apply aa|(apply ak;intro zb hc)|(apply aj;intro zb)|intro j')<;>try apply al
  rw[c1_2,aY (by omega),aY (s:=b) (by omega),dD,if_neg (fun h=>h hc)]
 ·rw[c1_2,List.drop_of_length_le (l:=a) (by omega),aY (s:=b) (by omega),dD]
 ·rw[c1_2,List.drop_of_length_le (l:=a) (by omega),List.drop_of_length_le (l:=b) (by omega),dD]
theorem mU {m0:Bool} (l:List Int) (hl:l.length≤1099511627776):Fun Tryz.prog 184 [(.sl (.lent m0) (List.map (PV.int .i64) (l)))] [(.int .i64 (FA l))]:=by
 refine fO aR [2] Tryz.func184 ?_
 refine ax trivial ?_
 all_goals try(apply ai;repeat' first|exact ah|apply aa|(apply ak;intro zb hc)|(apply aj;intro zb)|intro j')<;>try apply al
 refine an (fun ms1 S1=>∃(k:Nat),S1.e 3=.p (.int .i64 (0))∧S1.e 6=.p (.sl (.lent m0) (List.map (PV.int .i64) (l)))∧S1.e 7=.p (.int .i64 (l.length))∧S1.e 8=.p (.int .i64 (k))∧(k≤l.length)∧(FA l=FA (l.drop k))∧ms1=l.length - k) ((fun(k:Nat)=>l.length - k) (0)) ?_ ⟨0,jK trivial ?_⟩
 all_goals try(apply ai;repeat' first|exact ah|apply aa|(apply ak;intro zb hc)|(apply aj;intro zb)|intro j')<;>try apply al
 rintro ms1 S1 ⟨k,h1_3,h1_6,h1_7,h1_8,c1_0,c1_1,hm1⟩
 have fL1:=(aa h1_3 (aa h1_6 (aa h1_7 h1_8)))
 refine ax fL1 ?_
 all_goals try(apply ai;repeat' first|exact ah|apply aa|(apply ak;intro zb hc)|(apply aj;intro zb)|intro j')<;>try apply al
 ·rw[c1_1,aY (by omega),FA,if_pos hc]
 ·focus
   refine am ((fun(k:Nat)=>l.length - k) (k+1)) (dC fL1 ?_) ⟨k+1,dC fL1 ?_⟩
   all_goals try(apply ai;repeat' first|exact ah|apply aa|(apply ak;intro zb hc)|(apply aj;intro zb)|intro j')<;>try apply al
  rw[c1_1,aY (by omega),FA,if_neg (fun h=>h hc)]
 ·rw[c1_1,List.drop_of_length_le (by omega),FA]
theorem DX {m0:Bool} (a b:Int):Fun Tryz.prog 184 [.sl (.lent m0) [.int .i64 a,.int .i64 b]] [.int .i64 (if a≠0 then a else b)]:=by
 have h:=mU (m0:=m0) [a,b] (by simp)
 have e:FA [a,b]=if a≠0 then a else b:=by
  simp only[FA];split
  ·rfl
  ·split
   ·rfl
   ·omega
 rw[e]at h
 exact h
theorem gB {m0 m1:Bool} (p q:List Int) (hp:p.length≤1048576) (hq:q.length≤1048576):Fun Tryz.prog 156 [(.sl (.lent m0) (List.map (PV.int .i64) (p))),(.sl (.lent m1) (List.map (PV.int .i64) (q)))] [(.int .i64 (oL p q))]:=by
 refine fO aR [4] Tryz.func156 ?_
 have cE1:= @fE;have cE2:= @ew;have cE3:= @mU
 have cE1:= @DX;have cE2:= @fE;have cE3:= @ew
 refine ax trivial ?_
 all_goals try(apply ai;repeat' first|exact ah|apply aa|(apply ak;intro zb hc)|(apply aj;intro zb)|intro j')<;>try apply al
 rfl
end Go.Gl
namespace Go.Gl
open Go Go.Proofs
variable [Amb] [NoQ]
def cP (p q:List Int):Bool:=decide (oL p q<0)
theorem Oo {a b:List Int} (h:a.length≠b.length):decide (a.length<b.length)=cP a b:=by
 rw[cP,oL,if_pos (fun e=>by rw[cmpI_0]at e;omega)]
 unfold fF
 by_cases h1:a.length<b.length
 ·rw[if_pos (by omega)];simp[h1]
 ·rw[if_neg (by omega),if_pos (by omega)];simp[h1]
theorem Oq {a b:List Int} (h:a.length=b.length):cP a b=decide (dD a b<0):=by
 rw[cP,oL,if_neg (fun e=>e (cmpI_0.2 (by omega)))]
theorem DZ {a b:Int}:decide (fF a b<0)=decide (a<b):=by
 unfold fF;split
 ·rename_i h;simp[h]
 ·split<;>simp<;>omega
theorem jN {m0 m1:Bool} (a b:List Int) (ha:a.length≤1048576) (hb:b.length≤1048576):Fun Tryz.prog 158 [(.sl (.lent m0) (List.map (PV.int .i64) (a))),(.sl (.lent m1) (List.map (PV.int .i64) (b)))] [(.bool (cP a b))]:=by
 refine fO aR [4] Tryz.func158 ?_
 refine ax trivial ?_
 all_goals try(apply ai;repeat' first|exact ah|apply aa|(apply ak;intro zb hc)|(apply aj;intro zb)|intro j')<;>try apply al
 ·exact Oo (by omega)
 have hl:a.length=b.length:=by omega
 rw[Oq hl]
 refine an (fun ms1 S1=>∃(k:Nat),S1.e 0=.p (.sl (.lent m0) (List.map (PV.int .i64) (a)))∧S1.e 1=.p (.sl (.lent m1) (List.map (PV.int .i64) (b)))∧S1.e 5=.p (.int .i64 (k))∧(k≤a.length)∧(dD a b=dD (a.drop k) (b.drop k))∧ms1=a.length - k) ((fun(k:Nat)=>a.length - k) (0)) ?_ ⟨0,jK trivial ?_⟩
 all_goals try(apply ai;repeat' first|exact ah|apply aa|(apply ak;intro zb hc)|(apply aj;intro zb)|intro j')<;>try apply al
 rintro ms1 S1 ⟨k,h1_0,h1_1,h1_5,c1_0,c1_1,hm1⟩
 have fL1:=(aa h1_0 (aa h1_1 h1_5))
 refine ax fL1 ?_
 all_goals try(apply ai;repeat' first|exact ah|apply aa|(apply ak;intro zb hc)|(apply aj;intro zb)|intro j')<;>try apply al
 ·rw[c1_1,aY (by omega),aY (s:=b) (by omega),dD,if_pos (fun e=>hc (cmpI_0.1 e)),DZ]
 ·focus
   refine am ((fun(k:Nat)=>a.length - k) (k+1)) (dC fL1 ?_) ⟨k+1,dC fL1 ?_⟩
   all_goals try(apply ai;repeat' first|exact ah|apply aa|(apply ak;intro zb hc)|(apply aj;intro zb)|intro j')<;>try apply al
  rw[c1_1,aY (by omega),aY (s:=b) (by omega),dD,if_neg (fun h=>h (cmpI_0.2 hc))]
 ·rw[c1_1,List.drop_of_length_le (l:=a) (by omega),List.drop_of_length_le (l:=b) (by omega),dD];rfl
theorem GU {p q:List Int}:(!(k6 0 p q q.length []).isEmpty)=iC p q:=rfl
theorem kA {m0 m1:Bool} (p q:List Int) (hp:p.length≤8) (hq:q.length≤8):Fun Tryz.prog 178 [.sl (.lent m0) (List.map (PV.int .i64) p),.sl (.lent m1) (List.map (PV.int .i64) q),.sl (.lent false) []] [.bool (iC p q)]:=by
 have c1:=wP (m0:=m0) (m1:=m1) p q hp hq q.length (m2:=false) [] (by simp) (by simp)
 rw[GU]at c1
 simpa only[List.map_nil]using c1
def AN (L:List (List Int)) (p:List Int):Bool:= !(L.any fun q=>iC p q)
theorem fS {e0 m0 m1:Bool} (L:List (List Int)) (p:List Int) (hL:L.length≤1099511627776) (hl:∀q∈L,q.length≤8) (hp:p.length≤8):Fun Tryz.prog 191 [(.sl (.lent m0) (List.map (bt e0) (L))),(.sl (.lent m1) (List.map (PV.int .i64) (p)))] [(.bool (AN L p))]:=by
 refine fO aR [4] Tryz.func191 ?_
 have cE1:= @mf
 refine ax trivial ?_
 all_goals try(apply ai;repeat' first|exact ah|apply aa|(apply ak;intro zb hc)|(apply aj;intro zb)|intro j')<;>try apply al
 refine an (fun ms1 S1=>∃(k:Nat),S1.e 0=.p (.sl (.lent m0) (List.map (bt e0) (L)))∧S1.e 1=.p (.sl (.lent m1) (List.map (PV.int .i64) (p)))∧S1.e 5=.p (.int .i64 (k))∧(k≤L.length)∧(∀q∈L.take k,iC p q=false)∧ms1=L.length - k) ((fun(k:Nat)=>L.length - k) (0)) ?_ ⟨0,jK trivial ?_⟩
 all_goals try(apply ai;repeat' first|exact ah|apply aa|(apply ak;intro zb hc)|(apply aj;intro zb)|intro j')<;>try apply al
 rintro ms1 S1 ⟨k,h1_0,h1_1,h1_5,c1_0,c1_1,hm1⟩
 have fL1:=(aa h1_0 (aa h1_1 h1_5))
 refine ax fL1 ?_
 all_goals try(apply ai;repeat' first|exact ah|apply aa|(apply ak;intro zb hc)|(apply aj;intro zb)|intro j')<;>try apply al
 ·exact hl _ (ar hc)
 ·have h1:(L.any fun q=>iC p q)=true:=List.any_eq_true.2 ⟨_,ar (by omega),hc⟩
  rw[AN,h1];rfl
 ·focus
   refine am ((fun(k:Nat)=>L.length - k) (k+1)) (dC fL1 ?_) ⟨k+1,dC fL1 ?_⟩
   all_goals try(apply ai;repeat' first|exact ah|apply aa|(apply ak;intro zb hc)|(apply aj;intro zb)|intro j')<;>try apply al
  intro q hq
  rw[az (d:=[]) (by omega)]at hq
  rcases List.mem_append.1 hq with hq|hq
  ·exact c1_1 q hq
  ·simp at hq;subst hq;simpa using hc
 ·have h1:(L.any fun q=>iC p q)=false:=by
   rw[Bool.eq_false_iff];intro h
   obtain⟨q,hq,h2⟩:=List.any_eq_true.1 h
   rw[List.take_of_length_le (by omega)]at c1_1
   rw[c1_1 q hq]at h2;cases h2
  rw[AN,h1];rfl
def t7 (L:List (List Int)) (k:Nat):Bool:=(List.range k).all fun i=>ae (L.getD i [])&& !decide ((L.getD i []).length=0)&&(decide (i=0)||cP (L.getD (i - 1) []) (L.getD i []))&& !((List.range i).any fun j=>iC (L.getD i []) (L.getD j []))
def eP (L:List (List Int)):Bool:=decide (L.length≤8)&&t7 L L.length
theorem kZ {L:List (List Int)} {k:Nat}:t7 L (k+1)=(t7 L k&&(ae (L.getD k [])&& !decide ((L.getD k []).length=0)&&(decide (k=0)||cP (L.getD (k - 1) []) (L.getD k []))&& !((List.range k).any fun j=>iC (L.getD k []) (L.getD j [])))):=by
 simp[t7,List.range_succ]
theorem nT {L:List (List Int)} {k j:Nat} (h:t7 L k=true) (hj:j<k):ae (L.getD j [])=true:=by
 rw[t7,List.all_eq_true]at h
 have:=h j (List.mem_range.2 hj)
 simp only[Bool.and_eq_true]at this
 exact this.1.1.1
theorem AE {L:List (List Int)} {k n:Nat} (hk:k≤n) (h:t7 L k=false):t7 L n=false:=by
 induction hk with
 |refl=>exact h
 |step _ ih=>rw[kZ,ih];rfl
theorem pj {L:List (List Int)} {k:Nat} (hk:k<L.length) (h:(ae (L.getD k [])&& !decide ((L.getD k []).length=0)&&(decide (k=0)||cP (L.getD (k - 1) []) (L.getD k []))&& !((List.range k).any fun j=>iC (L.getD k []) (L.getD j [])))=false):false=eP L:=by
 rw[eP,AE (k:=k+1) (by omega) (by rw[kZ,h,Bool.and_false]),Bool.and_false]
theorem bj {e0 m0:Bool} (L:List (List Int)) (hL:L.length≤1048576) (hl:∀l∈L,l.length≤1048576):Fun Tryz.prog 190 [(.sl (.lent m0) (List.map (bt e0) (L)))] [(.bool (eP L))]:=by
 refine fO aR [2] Tryz.func190 ?_
 have cE1:= @aq;have cE2:= @jN;have cE3:= @mf;have cD1:=gY [false,false,false,false,true,false,false,false,false,false,false,false,false,false,false,false,false,false,false,false,false,false,false,false,false,false,false,true,false,false,false] [];have cD2:=gY [false,false,false,false,false,false,false,false,true] []
 refine ax trivial ?_
 all_goals try(apply ai;repeat' first|exact ah|apply aa|(apply ak;intro zb hc;repeat (have zc:=zb.1;replace zb:=zb.2))|(apply aj;intro zb)|intro j')<;>try apply al
 refine an (fun ms1 S1=>∃(k:Nat),S1.e 0=.p (.sl (.lent m0) (List.map (bt e0) (L)))∧S1.e 3=.p (.int .i64 (k))∧(k≤L.length)∧(t7 L k=true)∧ms1=L.length - k) ((fun(k:Nat)=>L.length - k) (0)) ?_ ⟨0,dC trivial ?_⟩
 all_goals try(apply ai;repeat' first|exact ah|apply aa|(apply ak;intro zb hc;repeat (have zc:=zb.1;replace zb:=zb.2))|(apply aj;intro zb)|intro j')<;>try apply al
 rintro ms1 S1 ⟨k,h1_0,h1_3,c1_0,c1_1,hm1⟩
 have fL1:=(aa h1_0 h1_3)
 have u1:((k:Int) - 1).toNat=k - 1:=by omega
 by_cases hk:k<L.length
 ·have g1:=hl _ (ar (d:=[]) hk)
  have g2:0<k→(L.getD (k - 1) []).length≤1048576:=fun h=>hl _ (ar (by omega))
  refine ax (aa fL1 @u1) ?_
  all_goals try(apply ai;repeat' first|exact ah|apply aa|(apply ak;intro zb hc;repeat (have zc:=zb.1;replace zb:=zb.2))|(apply aj;intro zb)|intro j')<;>try apply al
  ·refine pj hk ?_
   have x1:cP (L.getD (k - 1) []) (L.getD k [])=false:=hc
   have x3:decide (k=0)=false:=decide_eq_false (by omega)
   rw[x1,x3];simp
  ·have w1:ae (L.getD k [])=true:=by assumption
   have w2:¬((L.getD k []).length:Int)=0:=by assumption
   have w3:(decide (k=0)||cP (L.getD (k - 1) []) (L.getD k []))=true:=by rw[hc,Bool.or_true]
   have w4:=(aw w1).1
   refine an (fun ms2 S2=>∃(j:Nat),S2.e 0=.p (.sl (.lent m0) (List.map (bt e0) (L)))∧S2.e 3=.p (.int .i64 (k))∧S2.e 4=.p (.int .i64 (j))∧(j≤k)∧(∀i,i<j→iC (L.getD k []) (L.getD i [])=false)∧S1.n≤S2.n∧ms2=k - j) ((fun(j:Nat)=>k - j) (0)) ?_ ⟨0,dC fL1 ?_⟩
   all_goals try(apply ai;repeat' first|exact ah|apply aa|(apply ak;intro zb hc;repeat (have zc:=zb.1;replace zb:=zb.2))|(apply aj;intro zb)|intro j')<;>try apply al
   rintro ms2 S2 ⟨j,h2_0,h2_3,h2_4,c2_0,c2_1,u2_0,hm2⟩
   have fL2:=(aa h2_0 (aa h2_3 h2_4))
   have w5:j<k→(L.getD j []).length≤8:=fun h=>(aw (nT c1_1 h)).1
   have w6:j<k→(L.take k).getD j []=L.getD j []:=fun h=>by simp only[List.getD_eq_getElem?_getD,List.getElem?_take];rw[if_pos h]
   by_cases hj:j<k
   ·have w7:=w5 hj
    have w8:=w6 hj
    refine ax fL2 ?_
    all_goals try(apply ai;repeat' first|exact ah|apply aa|(apply ak;intro zb hc;repeat (have zc:=zb.1;replace zb:=zb.2))|(apply aj;intro zb)|intro j')<;>try apply al
    ·have x1:((List.range k).any fun j=>iC (L.getD k []) (L.getD j []))=true:=List.any_eq_true.2 ⟨j,List.mem_range.2 hj,hc⟩
     exact pj hk (by rw[x1];simp)
    ·focus
      refine am ((fun(j:Nat)=>k - j) (j+1)) (dC fL2 ?_) ⟨j+1,dC fL2 ?_⟩
      all_goals try(apply ai;repeat' first|exact ah|apply aa|(apply ak;intro zb hc;repeat (have zc:=zb.1;replace zb:=zb.2))|(apply aj;intro zb)|intro j')<;>try apply al
     intro i hi
     by_cases e:i=j
     ·subst e;exact hc
     ·exact c2_1 i (by omega)
   ·refine ax fL2 ?_
    all_goals try(apply ai;repeat' first|exact ah|apply aa|(apply ak;intro zb hc;repeat (have zc:=zb.1;replace zb:=zb.2))|(apply aj;intro zb)|intro j')<;>try apply al
    ·focus
      refine am ((fun(k:Nat)=>L.length - k) (k+1)) (dC fL2 ?_) ⟨k+1,dC fL2 ?_⟩
      all_goals try(apply ai;repeat' first|exact ah|apply aa|(apply ak;intro zb hc;repeat (have zc:=zb.1;replace zb:=zb.2))|(apply aj;intro zb)|intro j')<;>try apply al
     have x1:((List.range k).any fun j=>iC (L.getD k []) (L.getD j []))=false:=by
      rw[Bool.eq_false_iff];intro h
      obtain⟨i,hi,h2⟩:=List.any_eq_true.1 h
      rw[c2_1 i (by have:=List.mem_range.1 hi;omega)]at h2;cases h2
     rw[kZ,c1_1,w1,w3,x1,decide_eq_false (by omega)];rfl
  ·have w1:ae (L.getD k [])=true:=by assumption
   have w2:¬((L.getD k []).length:Int)=0:=by assumption
   have w3:(decide (k=0)||cP (L.getD (k - 1) []) (L.getD k []))=true:=by rw[decide_eq_true (by omega),Bool.true_or]
   have w4:=(aw w1).1
   refine an (fun ms3 S3=>∃(j:Nat),S3.e 0=.p (.sl (.lent m0) (List.map (bt e0) (L)))∧S3.e 3=.p (.int .i64 (k))∧S3.e 4=.p (.int .i64 (j))∧(j≤k)∧(∀i,i<j→iC (L.getD k []) (L.getD i [])=false)∧S1.n≤S3.n∧ms3=k - j) ((fun(j:Nat)=>k - j) (0)) ?_ ⟨0,dC fL1 ?_⟩
   all_goals try(apply ai;repeat' first|exact ah|apply aa|(apply ak;intro zb hc;repeat (have zc:=zb.1;replace zb:=zb.2))|(apply aj;intro zb)|intro j')<;>try apply al
   rintro ms3 S3 ⟨j,h3_0,h3_3,h3_4,c3_0,c3_1,u3_0,hm3⟩
   have fL3:=(aa h3_0 (aa h3_3 h3_4))
   have w5:j<k→(L.getD j []).length≤8:=fun h=>(aw (nT c1_1 h)).1
   have w6:j<k→(L.take k).getD j []=L.getD j []:=fun h=>by simp only[List.getD_eq_getElem?_getD,List.getElem?_take];rw[if_pos h]
   by_cases hj:j<k
   ·omega
   ·refine ax fL3 ?_
    all_goals try(apply ai;repeat' first|exact ah|apply aa|(apply ak;intro zb hc;repeat (have zc:=zb.1;replace zb:=zb.2))|(apply aj;intro zb)|intro j')<;>try apply al
    ·focus
      refine am ((fun(k:Nat)=>L.length - k) (k+1)) (dC fL3 ?_) ⟨k+1,dC fL3 ?_⟩
      all_goals try(apply ai;repeat' first|exact ah|apply aa|(apply ak;intro zb hc;repeat (have zc:=zb.1;replace zb:=zb.2))|(apply aj;intro zb)|intro j')<;>try apply al
     have x1:((List.range k).any fun j=>iC (L.getD k []) (L.getD j []))=false:=by
      rw[Bool.eq_false_iff];intro h
      obtain⟨i,hi,h2⟩:=List.any_eq_true.1 h
      rw[c3_1 i (by have:=List.mem_range.1 hi;omega)]at h2;cases h2
     rw[kZ,c1_1,w1,w3,x1,decide_eq_false (by omega)];rfl
  ·have x2:(L.getD k []).length=0:=by omega
   exact pj hk (by rw[decide_eq_true x2];simp)
  ·exact pj hk (by rw[hc];rfl)
 ·skip
  refine ax fL1 ?_
  all_goals try(apply ai;repeat' first|exact ah|apply aa|(apply ak;intro zb hc;repeat (have zc:=zb.1;replace zb:=zb.2))|(apply aj;intro zb)|intro j')<;>try apply al
  obtain rfl:k=L.length:=by omega
  rw[eP,c1_1,Bool.and_true];congr 1;rw[eq_iff_iff];omega
def nq (l:List Int) (k:Nat):Int:=(l.take k).foldl min (l.getD 0 0)
def nu (l:List Int) (k:Nat):Int:=(l.take k).foldl max (l.getD 0 0)
def wD (l:List Int):Int:=nq l l.length
def wF (l:List Int):Int:=nu l l.length
theorem kP {l:List Int} {k:Nat} (h:k<l.length):nq l (k+1)=min (nq l k) (l.getD k 0):=by
 rw[nq,az (d:=0) h,List.foldl_append];rfl
theorem kQ {l:List Int} {k:Nat} (h:k<l.length):nu l (k+1)=max (nu l k) (l.getD k 0):=by
 rw[nu,az (d:=0) h,List.foldl_append];rfl
theorem LY {l:List Int} (h:0<l.length):nq l 1=l.getD 0 0:=by
 rw[kP h,nq,List.take_zero];simp
theorem L0 {l:List Int} (h:0<l.length):nu l 1=l.getD 0 0:=by
 rw[kQ h,nu,List.take_zero];simp
theorem tB {l:List Int} {a b:Int} (hb:∀x∈l,a≤x∧x≤b) (h0:0<l.length):∀{k:Nat},k≤l.length→a≤nq l k∧nq l k≤b
 |0,_=>by rw[nq,List.take_zero];exact hb _ (ar h0)
 |k+1,h=>by
  have h1:=tB hb h0 (k:=k) (by omega)
  have h2:=hb _ (ar (d:=0) (show k<l.length by omega))
  rw[kP (by omega)];omega
theorem tC {l:List Int} {a b:Int} (hb:∀x∈l,a≤x∧x≤b) (h0:0<l.length):∀{k:Nat},k≤l.length→a≤nu l k∧nu l k≤b
 |0,_=>by rw[nu,List.take_zero];exact hb _ (ar h0)
 |k+1,h=>by
  have h1:=tC hb h0 (k:=k) (by omega)
  have h2:=hb _ (ar (d:=0) (show k<l.length by omega))
  rw[kQ (by omega)];omega
def dA (p:List Int) (a b:Nat):List Int:=(p.take b).drop a
theorem ft {p:List Int} {a b:Nat} (h:b≤p.length):(dA p a b).length=b - a:=by simp[dA];omega
theorem tg {p:List Int} {a b k:Nat} (h:a+k<b):(dA p a b).getD k 0=p.getD (a+k) 0:=by
 simp only[dA,List.getD_eq_getElem?_getD,List.getElem?_drop,List.getElem?_take]
 rw[if_pos h]
theorem ib {p:List Int} {a b:Nat} {x:Int} (h:x∈dA p a b):x∈p:=List.mem_of_mem_take (List.mem_of_mem_drop h)
def jF (p:List Int) (a b:Int):Bool:=decide (wF (dA p a.toNat b.toNat) - wD (dA p a.toNat b.toNat)=b - a - 1)
theorem j8 {m0:Bool} (l:List Int) (h0:0<l.length) (hl:l.length≤1099511627776):Fun Tryz.prog 194 [(.sl (.lent m0) (List.map (PV.int .i64) (l)))] [(.int .i64 (wD l))]:=by
 refine fO aR [2] Tryz.func194 ?_
 refine ax trivial ?_
 all_goals try(apply ai;repeat' first|exact ah|apply aa|(apply ak;intro zb hc)|(apply aj;intro zb)|intro j')<;>try apply al
 refine an (fun ms1 S1=>∃(k:Nat),S1.e 0=.p (.sl (.lent m0) (List.map (PV.int .i64) (l)))∧S1.e 3=.p (.int .i64 (nq l k))∧S1.e 4=.p (.int .i64 (k))∧(1≤k)∧(k≤l.length)∧ms1=l.length - k) ((fun(k:Nat)=>l.length - k) (1)) ?_ ⟨1,jK trivial ?_⟩
 all_goals try(apply ai;repeat' first|exact ah|apply aa|(apply ak;intro zb hc)|(apply aj;intro zb)|intro j')<;>try apply al
 rintro ms1 S1 ⟨k,h1_0,h1_3,h1_4,c1_0,c1_1,hm1⟩
 have fL1:=(aa h1_0 (aa h1_3 h1_4))
 refine ax fL1 ?_
 all_goals try(apply ai;repeat' first|exact ah|apply aa|(apply ak;intro zb hc)|(apply aj;intro zb)|intro j')<;>try apply al
 ·focus
   refine am ((fun(k:Nat)=>l.length - k) (k+1)) (dC fL1 ?_) ⟨k+1,dC fL1 ?_⟩
   all_goals try(apply ai;repeat' first|exact ah|apply aa|(apply ak;intro zb hc)|(apply aj;intro zb)|intro j')<;>try apply al
  rw[kP (by omega)]
 ·rw[wD];congr 1;omega
 ·rw[LY h0]
theorem j9 {m0:Bool} (l:List Int) (h0:0<l.length) (hl:l.length≤1099511627776):Fun Tryz.prog 193 [(.sl (.lent m0) (List.map (PV.int .i64) (l)))] [(.int .i64 (wF l))]:=by
 refine fO aR [2] Tryz.func193 ?_
 refine ax trivial ?_
 all_goals try(apply ai;repeat' first|exact ah|apply aa|(apply ak;intro zb hc)|(apply aj;intro zb)|intro j')<;>try apply al
 refine an (fun ms1 S1=>∃(k:Nat),S1.e 0=.p (.sl (.lent m0) (List.map (PV.int .i64) (l)))∧S1.e 3=.p (.int .i64 (nu l k))∧S1.e 4=.p (.int .i64 (k))∧(1≤k)∧(k≤l.length)∧ms1=l.length - k) ((fun(k:Nat)=>l.length - k) (1)) ?_ ⟨1,jK trivial ?_⟩
 all_goals try(apply ai;repeat' first|exact ah|apply aa|(apply ak;intro zb hc)|(apply aj;intro zb)|intro j')<;>try apply al
 rintro ms1 S1 ⟨k,h1_0,h1_3,h1_4,c1_0,c1_1,hm1⟩
 have fL1:=(aa h1_0 (aa h1_3 h1_4))
 refine ax fL1 ?_
 all_goals try(apply ai;repeat' first|exact ah|apply aa|(apply ak;intro zb hc)|(apply aj;intro zb)|intro j')<;>try apply al
 ·focus
   refine am ((fun(k:Nat)=>l.length - k) (k+1)) (dC fL1 ?_) ⟨k+1,dC fL1 ?_⟩
   all_goals try(apply ai;repeat' first|exact ah|apply aa|(apply ak;intro zb hc)|(apply aj;intro zb)|intro j')<;>try apply al
  rw[kQ (by omega)]
 ·rw[wF];congr 1;omega
 ·rw[L0 h0]
theorem iO {m0:Bool} (p:List Int) (a b:Int) (h0:0≤a) (h1:a<b) (h2:b≤p.length) (hl:p.length≤8) (hb:∀x∈p,0≤x∧x≤1048576):Fun Tryz.prog 169 [(.sl (.lent m0) (List.map (PV.int .i64) (p))),(.int .i64 (a)),(.int .i64 (b))] [(.bool (jF p a b))]:=by
 refine fO aR [6] Tryz.func169 ?_
 have cE1:= @j9;have cE2:= @j8
 have e1:List.drop a.toNat (List.take b.toNat p)=dA p a.toNat b.toNat:=rfl
 have e2:(dA p a.toNat b.toNat).length=b.toNat - a.toNat:=ft (by omega)
 have b1:=tB (fun x hx=>hb x (ib (a:=a.toNat) (b:=b.toNat) hx)) (by omega) (Nat.le_refl _)
 have b2:=tC (fun x hx=>hb x (ib (a:=a.toNat) (b:=b.toNat) hx)) (by omega) (Nat.le_refl _)
 rw[←wD]at b1
 rw[←wF]at b2
 refine ax @e1 ?_
 all_goals try(apply ai;repeat' first|exact ah|apply aa|(apply ak;intro zb hc)|(apply aj;intro zb)|intro j')<;>try apply al
 rw[jF,e2];congr 1;rw[eq_iff_iff];omega
theorem ta (a b:Int):Fun Tryz.prog 188 [(.int .i64 (a)),(.int .i64 (b))] [(.int .i64 (min a b))]:=by
 refine fO aR [4] Tryz.func188 ?_
 refine dE trivial ?_
 all_goals try(apply ai;repeat' first|exact ah|apply aa|(apply ak;intro zb hc)|(apply aj;intro zb)|intro j')<;>try apply al
 all_goals omega
theorem mg {m0:Bool} (p:List Int) (a b:Int) (h0:0≤a) (h1:a≤b) (h2:b<p.length) (hl:p.length≤8) (hb:∀x∈p,0≤x∧x≤1048576):Fun Tryz.prog 162 [(.sl (.lent m0) (List.map (PV.int .i64) (p))),(.int .i64 (a)),(.int .i64 (b))] [(.bool (jF p a (b+1)))]:=by
 refine fO aR [6] Tryz.func162 ?_
 have cE1:= @ta;have cE2:= @gG
 have e2:(dA p a.toNat (b+1).toNat).length=(b+1).toNat - a.toNat:=ft (by omega)
 have b1:=tB (fun x hx=>hb x (ib (a:=a.toNat) (b:=(b+1).toNat) hx)) (by omega) (Nat.le_refl _)
 have b2:=tC (fun x hx=>hb x (ib (a:=a.toNat) (b:=(b+1).toNat) hx)) (by omega) (Nat.le_refl _)
 rw[←wD]at b1
 rw[←wF]at b2
 refine ax trivial ?_
 all_goals try(apply ai;repeat' first|exact ah|apply aa|(apply ak;intro zb hc)|(apply aj;intro zb)|intro j')<;>try apply al
 refine an (fun ms1 S1=>∃(k:Nat),S1.e 0=.p (.sl (.lent m0) (List.map (PV.int .i64) (p)))∧S1.e 1=.p (.int .i64 (a))∧S1.e 2=.p (.int .i64 (b))∧S1.e 7=.p (.int .i64 (nq (dA p a.toNat (b+1).toNat) k))∧S1.e 8=.p (.int .i64 (nu (dA p a.toNat (b+1).toNat) k))∧S1.e 9=.p (.int .i64 ((a+k)))∧((k:Int)≤b+1 - a)∧ms1=(b+1 - a).toNat - k) ((fun(k:Nat)=>(b+1 - a).toNat - k) (0)) ?_ ⟨0,dI trivial ?_⟩
 all_goals try(apply ai;repeat' first|exact ah|apply aa|(apply ak;intro zb hc)|(apply aj;intro zb)|intro j')<;>try apply al
 rintro ms1 S1 ⟨k,h1_0,h1_1,h1_2,h1_7,h1_8,h1_9,c1_0,hm1⟩
 have fL1:=(aa h1_0 (aa h1_1 (aa h1_2 (aa h1_7 (aa h1_8 h1_9)))))
 have e3:a+k<b+1→p.getD (a+k).toNat 0=(dA p a.toNat (b+1).toNat).getD k 0:=fun h=>by
  rw[tg (by omega)];congr 1;omega
 refine dE fL1 ?_
 all_goals try(apply ai;repeat' first|exact ah|apply aa|(apply ak;intro zb hc)|(apply aj;intro zb)|intro j')<;>try apply al
 all_goals try rw[e3 (by omega)]
 all_goals try exact gZ
 ·focus
   refine am ((fun(k:Nat)=>(b+1 - a).toNat - k) (k+1)) (dC fL1 ?_) ⟨k+1,dC fL1 ?_⟩
   all_goals try(apply ai;repeat' first|exact ah|apply aa|(apply ak;intro zb hc)|(apply aj;intro zb)|intro j')<;>try apply al
  ·rw[kP (by omega)]
  ·rw[kQ (by omega)]
 ·have h4:=tB (fun x hx=>hb x (ib (a:=a.toNat) (b:=(b+1).toNat) hx)) (by omega) (show k≤(dA p a.toNat (b+1).toNat).length by omega)
  have h5:=tC (fun x hx=>hb x (ib (a:=a.toNat) (b:=(b+1).toNat) hx)) (by omega) (show k≤(dA p a.toNat (b+1).toNat).length by omega)
  rw[iN];omega
 ·have h3:k=(dA p a.toNat (b+1).toNat).length:=by omega
  rw[jF,h3,←wD,←wF];congr 1;rw[eq_iff_iff];omega
 ·rw[nq,List.take_zero,tg (by omega)];simp
 ·rw[nu,List.take_zero,tg (by omega)];simp
def wM (p:List Int) (a k:Nat):List (List Int):=(List.range k).flatMap fun i:Nat=>if(i:Int)+2<p.length∧jF p a (a+2+i)=true then[[(a:Int)+1,a+2+i]]else[]
def wN (p:List Int) (a:Nat):List (List Int):=(List.range a).flatMap fun x=>wM p x (p.length - 1 - x)
def GF (p:List Int):List (List Int):=wN p p.length
theorem ij {p:List Int} {a k:Nat}:wM p a (k+1)=wM p a k++if(k:Int)+2<p.length∧jF p a (a+2+k)=true then[[(a:Int)+1,a+2+k]]else[]:=by
 simp[wM,List.range_succ]
theorem qj {p:List Int} {a:Nat}:wN p (a+1)=wN p a++wM p a (p.length - 1 - a):=by
 simp[wN,List.range_succ]
theorem o7 {p:List Int} {a:Nat}:∀{k:Nat},(wM p a k).length≤k
 |0=>by simp[wM]
 |k+1=>by
  have:=o7 (p:=p) (a:=a) (k:=k)
  rw[ij,List.length_append];split<;>simp<;>omega
theorem yh {p:List Int}:∀{a:Nat},(wN p a).length≤a*p.length
 |0=>by simp[wN]
 |a+1=>by
  have h1:=yh (p:=p) (a:=a)
  have h2:=o7 (p:=p) (a:=a) (k:=p.length - 1 - a)
  rw[qj,List.length_append,Nat.succ_mul];omega
theorem I3 {p:List Int} (hl:p.length≤8) {a:Nat} (ha:a≤p.length):(wN p a).length≤64:=
 Nat.le_trans yh (Nat.le_trans (Nat.mul_le_mul ha (Nat.le_refl _)) (Nat.mul_le_mul hl hl))
theorem nJ {m0:Bool} (p:List Int) (hl:p.length≤8) (hb:∀x∈p,0≤x∧x≤1048576):Fun Tryz.prog 173 [(.sl (.lent m0) (List.map (PV.int .i64) (p)))] [(.sl .own (List.map (bt false) (GF p)))]:=by
 refine fO aR [2] Tryz.func173 ?_
 have cE1:= @iO
 refine ax trivial ?_
 all_goals try(apply ai;repeat' first|exact ah|apply aa|(apply ak;intro zb hc)|(apply aj;intro zb)|intro j')<;>try apply al
 refine an (fun ms1 S1=>∃(a:Nat),S1.e 0=.p (.sl (.lent m0) (List.map (PV.int .i64) (p)))∧OwnL (S1.e 3) S1.h S1.n (bt false) ((wN p a).length) (wN p a)∧S1.e 8=.p (.int .i64 (p.length))∧S1.e 9=.p (.int .i64 (a))∧(a≤p.length)∧ms1=p.length - a) ((fun(a:Nat)=>p.length - a) (0)) ?_ ⟨0,jK trivial ?_⟩
 all_goals try(apply ai;repeat' first|exact ah|apply aa|(apply ak;intro zb hc)|(apply aj;intro zb)|intro j')<;>try apply al
 rintro ms1 S1 ⟨a,h1_0,o1_3,h1_8,h1_9,c1_0,hm1⟩
 obtain⟨i1_3,h1_3,b1_3,l1_3⟩:=o1_3.out
 have ni1_3:=aG (x:=i1_3) (n:=S1.n)
 have fL1:=(aa h1_0 (aa h1_8 (aa h1_9 (aa h1_3 (aa b1_3 ni1_3)))))
 have c1:=I3 hl c1_0
 refine ax fL1 ?_
 all_goals try(apply ai;repeat' first|exact ah|apply aa|(apply ak;intro zb hc)|(apply aj;intro zb)|intro j')<;>try apply al
 ·refine an (fun ms2 S2=>∃(k:Nat),S2.e 0=.p (.sl (.lent m0) (List.map (PV.int .i64) (p)))∧OwnL (S2.e 3) S2.h S2.n (bt false) ((wN p a++wM p a k).length) (wN p a++wM p a k)∧S2.e 4=.p (.int .i64 (a))∧S2.e 5=.p (.int .i64 ((a+2+k)))∧S2.e 8=.p (.int .i64 (p.length))∧S2.e 9=.p (.int .i64 (a))∧(k≤p.length - 1 - a)∧(a<p.length)∧S1.n≤S2.n∧ms2=p.length - 1 - a - k) ((fun(k:Nat)=>p.length - 1 - a - k) (0)) ?_ ⟨0,jK fL1 ?_⟩
  all_goals try(apply ai;repeat' first|exact ah|apply aa|(apply ak;intro zb hc)|(apply aj;intro zb)|intro j')<;>try apply al
  rintro ms2 S2 ⟨k,h2_0,o2_3,h2_4,h2_5,h2_8,h2_9,c2_0,c2_1,u2_0,hm2⟩
  obtain⟨i2_3,h2_3,b2_3,l2_3⟩:=o2_3.out
  have ni2_3:=aG (x:=i2_3) (n:=S2.n)
  have fL2:=(aa h2_0 (aa h2_4 (aa h2_5 (aa h2_8 (aa h2_9 (aa h2_3 (aa b2_3 ni2_3)))))))
  have c2:=o7 (p:=p) (a:=a) (k:=k)
  refine ax fL2 ?_
  all_goals try(apply ai;repeat' first|exact ah|apply aa|(apply ak;intro zb hc)|(apply aj;intro zb)|intro j')<;>try apply al
  ·focus
    refine am ((fun(k:Nat)=>p.length - 1 - a - k) (k+1)) (dC fL2 ?_) ⟨k+1,dC fL2 ?_⟩
    all_goals try(apply ai;repeat' first|exact ah|apply aa|(apply ak;intro zb hc)|(apply aj;intro zb)|intro j')<;>try apply al
   all_goals(rw[ij,if_pos ⟨by omega,hc⟩]<;>simp[bt,Nat.add_assoc])
  ·focus
    refine am ((fun(k:Nat)=>p.length - 1 - a - k) (k+1)) (dC fL2 ?_) ⟨k+1,dC fL2 ?_⟩
    all_goals try(apply ai;repeat' first|exact ah|apply aa|(apply ak;intro zb hc)|(apply aj;intro zb)|intro j')<;>try apply al
   all_goals(rw[ij,if_neg (fun h=>by rw[h.2]at hc;cases hc),List.append_nil])
  ·focus
    refine am ((fun(k:Nat)=>p.length - 1 - a - k) (k+1)) (dC fL2 ?_) ⟨k+1,dC fL2 ?_⟩
    all_goals try(apply ai;repeat' first|exact ah|apply aa|(apply ak;intro zb hc)|(apply aj;intro zb)|intro j')<;>try apply al
   all_goals(rw[ij,if_neg (fun h=>by omega),List.append_nil])
  ·focus
    refine am ((fun(a:Nat)=>p.length - a) (a+1)) (dC fL2 ?_) ⟨a+1,dC fL2 ?_⟩
    all_goals try(apply ai;repeat' first|exact ah|apply aa|(apply ak;intro zb hc)|(apply aj;intro zb)|intro j')<;>try apply al
   all_goals(rw[qj,show k=p.length - 1 - a by omega])
  ·simp[wM]
  ·simp[wM]
 ·obtain rfl:a=p.length:=by omega
  rfl
theorem hZ {m0:Bool} (p:List Int) (hp:ae p=true) (hl:p.length≤8) (hb:∀x∈p,0≤x∧x≤1048576):Fun Tryz.prog 124 [(.sl (.lent m0) (List.map (PV.int .i64) (p)))] [(.sl .own (List.map (bt false) (GF p)))]:=by
 refine fO aR [2] Tryz.func124 ?_
 have cE1:= @aq;have cE2:= @mg
 refine ax trivial ?_
 all_goals try(apply ai;repeat' first|exact ah|apply aa|(apply ak;intro zb hc)|(apply aj;intro zb)|intro j')<;>try apply al
 refine an (fun ms1 S1=>∃(a:Nat),S1.e 0=.p (.sl (.lent m0) (List.map (PV.int .i64) (p)))∧OwnL (S1.e 3) S1.h S1.n (bt false) ((wN p a).length) (wN p a)∧S1.e 4=.p (.int .i64 (a))∧(a≤p.length)∧ms1=p.length - a) ((fun(a:Nat)=>p.length - a) (0)) ?_ ⟨0,jK trivial ?_⟩
 all_goals try(apply ai;repeat' first|exact ah|apply aa|(apply ak;intro zb hc)|(apply aj;intro zb)|intro j')<;>try apply al
 rintro ms1 S1 ⟨a,h1_0,o1_3,h1_4,c1_0,hm1⟩
 obtain⟨i1_3,h1_3,b1_3,l1_3⟩:=o1_3.out
 have ni1_3:=aG (x:=i1_3) (n:=S1.n)
 have fL1:=(aa h1_0 (aa h1_4 (aa h1_3 (aa b1_3 ni1_3))))
 have c1:=I3 hl c1_0
 refine ax (aa fL1 @hp) ?_
 all_goals try(apply ai;repeat' first|exact ah|apply aa|(apply ak;intro zb hc)|(apply aj;intro zb)|intro j')<;>try apply al
 ·refine an (fun ms2 S2=>∃(k:Nat),S2.e 0=.p (.sl (.lent m0) (List.map (PV.int .i64) (p)))∧OwnL (S2.e 3) S2.h S2.n (bt false) ((wN p a++wM p a k).length) (wN p a++wM p a k)∧S2.e 4=.p (.int .i64 (a))∧S2.e 5=.p (.int .i64 ((a+1+k)))∧(k≤p.length - 1 - a)∧(a<p.length)∧S1.n≤S2.n∧ms2=p.length - 1 - a - k) ((fun(k:Nat)=>p.length - 1 - a - k) (0)) ?_ ⟨0,jK fL1 ?_⟩
  all_goals try(apply ai;repeat' first|exact ah|apply aa|(apply ak;intro zb hc)|(apply aj;intro zb)|intro j')<;>try apply al
  rintro ms2 S2 ⟨k,h2_0,o2_3,h2_4,h2_5,c2_0,c2_1,u2_0,hm2⟩
  obtain⟨i2_3,h2_3,b2_3,l2_3⟩:=o2_3.out
  have ni2_3:=aG (x:=i2_3) (n:=S2.n)
  have fL2:=(aa h2_0 (aa h2_4 (aa h2_5 (aa h2_3 (aa b2_3 ni2_3)))))
  have c2:=o7 (p:=p) (a:=a) (k:=k)
  have e5:(a:Int)+1+k+1=a+2+k:=by omega
  refine ax (aa fL2 @e5) ?_
  all_goals try(apply ai;repeat' first|exact ah|apply aa|(apply ak;intro zb hc)|(apply aj;intro zb)|intro j')<;>try apply al
  ·focus
    refine am ((fun(k:Nat)=>p.length - 1 - a - k) (k+1)) (dC fL2 ?_) ⟨k+1,dC fL2 ?_⟩
    all_goals try(apply ai;repeat' first|exact ah|apply aa|(apply ak;intro zb hc)|(apply aj;intro zb)|intro j')<;>try apply al
   all_goals(rw[ij,if_pos ⟨by omega,hc⟩]<;>simp[bt,Nat.add_assoc])
  ·focus
    refine am ((fun(k:Nat)=>p.length - 1 - a - k) (k+1)) (dC fL2 ?_) ⟨k+1,dC fL2 ?_⟩
    all_goals try(apply ai;repeat' first|exact ah|apply aa|(apply ak;intro zb hc)|(apply aj;intro zb)|intro j')<;>try apply al
   all_goals(rw[ij,if_neg (fun h=>by rw[h.2]at hc;cases hc),List.append_nil])
  ·focus
    refine am ((fun(k:Nat)=>p.length - 1 - a - k) (k+1)) (dC fL2 ?_) ⟨k+1,dC fL2 ?_⟩
    all_goals try(apply ai;repeat' first|exact ah|apply aa|(apply ak;intro zb hc)|(apply aj;intro zb)|intro j')<;>try apply al
   all_goals(rw[ij,if_neg (fun h=>by omega),List.append_nil])
  ·focus
    refine am ((fun(a:Nat)=>p.length - a) (a+1)) (dC fL2 ?_) ⟨a+1,dC fL2 ?_⟩
    all_goals try(apply ai;repeat' first|exact ah|apply aa|(apply ak;intro zb hc)|(apply aj;intro zb)|intro j')<;>try apply al
   all_goals(rw[qj,show k=p.length - 1 - a by omega])
  ·simp[wM]
  ·simp[wM]
 ·obtain rfl:a=p.length:=by omega
  rfl
def iX (p:List Int):Bool:=decide (0<p.length)&&decide ((GF p).length=0)
theorem yj {p:List Int} (h:0<(p.length:Int)):decide (((GF p).length:Int)=0)=iX p:=by
 rw[iX,decide_eq_true (by omega:0<p.length),Bool.true_and];congr 1;rw[eq_iff_iff];omega
theorem yk {p:List Int} (h:(p.length:Int)≤0):false=iX p:=by
 rw[iX,decide_eq_false (by omega),Bool.false_and]
theorem xZ {p:List Int} (h:ae p=true):∀x∈p,0≤x∧x≤1048576:=fun x hx=>by
 simp only[ae,Bool.and_eq_true,decide_eq_true_eq]at h
 obtain⟨i,hi,rfl⟩:=List.getElem_of_mem hx
 have:=mD h.2 hi
 rw[List.getD_eq_getElem?_getD,List.getElem?_eq_getElem hi]at this
 simp only[Option.getD_some]at this;omega
theorem oI {m0:Bool} (p:List Int) (hl:p.length≤8) (hb:∀x∈p,0≤x∧x≤1048576):Fun Tryz.prog 136 [(.sl (.lent m0) (List.map (PV.int .i64) (p)))] [(.bool (iX p))]:=by
 refine fO aR [2] Tryz.func136 ?_
 have cE1:= @nJ
 refine ax trivial ?_
 all_goals try(apply ai;repeat' first|exact ah|apply aa|(apply ak;intro zb hc)|(apply aj;intro zb)|intro j')<;>try apply al
 ·exact yj hc
 ·exact yk hc
theorem jP {m0:Bool} (p:List Int) (hl:p.length≤1048576):Fun Tryz.prog 75 [(.sl (.lent m0) (List.map (PV.int .i64) (p)))] [(.bool ((ae p&&iX p)))]:=by
 by_cases hp:ae p=true
 ·have hl8:=(aw hp).1
  have hb:=xZ hp
  have hq:=(aw hp).2
  refine fO aR [2] Tryz.func75 ?_
  have cE1:= @aq;have cE2:= @hZ
  refine ax (aa @hp @Bool.true_and) ?_
  all_goals try(apply ai;repeat' first|exact ah|apply aa|(apply ak;intro zb hc)|(apply aj;intro zb)|intro j')<;>try apply al
  ·exact yj hc
  ·exact yk hc
 ·rw[Bool.not_eq_true]at hp
  refine fO aR [2] Tryz.func75 ?_
  have cE1:= @aq;have cE2:= @hZ
  refine ax (aa @hp @Bool.false_and) ?_
  all_goals try(apply ai;repeat' first|exact ah|apply aa|(apply ak;intro zb hc)|(apply aj;intro zb)|intro j')<;>try apply al
end Go.Gl
