/-
  What the functions compute, and what the law asks of it: texts joined. Conditions: those that each lemma names.
-/
import Derived.Test.YtjimcmbfljdelaaGreatDoorA0
import Derived.Test.YtjimcmbfljdelaaGreatDoorGlC
import Derived.Test.YtjimcmbfljdelaaGreatDoorShelf
import Derived.Lib.Join
import Derived.Lib.ItoaLen
import Derived.Lib.AppendIntMem
set_option linter.unusedSimpArgs false
set_option linter.unusedVariables false
set_option maxRecDepth 20000
set_option linter.unusedSectionVars false
set_option maxHeartbeats 16000000
variable{acc s sep:List UInt8}{i j k m n:Nat}{l p:List Int}{m0:Bool}{v:Int}{f:Go.FuncId}
namespace Go.Gl
open Go Go.Proofs
variable [Amb]
theorem aA(a b c:Int):Fun Tryz.prog 84 [.int .i64 a,.int .i64 b,.int .i64 c] [.bool ((decide (b<=a)&&decide (a<=c)))]:=by
 refine fO au [6] Tryz.func84 ?_;exact dE zF trivial aj
def bU(b:Bool):Int:=if b then 1 else 0
theorem ik(b:Bool):0<=bU b/\bU b<=1:=by cases b<;>decide
theorem bw(b:Bool):Fun Tryz.prog 206 [.bool b] [.int .i64 (bU b)]:=by
 refine fO au [2] Tryz.func206 ?_;refine dE zF trivial (f9 ?_ ?_)<;>intro zb hc;all_goals simp[bU,hc]
theorem bK(a b:Int):Fun Tryz.prog 287 [.int .i64 a,.int .i64 b] [.int .i64 (max a b)]:=by
 refine fO au [4] Tryz.func287 ?_;refine dE zF trivial (f9 ?_ ?_)<;>intro zb hc;all_goals omega
theorem Ti(h:k<s.length):s.drop k=s.getD k 0::s.drop (k+1):=by
 rw[List.drop_eq_getElem_cons h,zA0,zA1 h];rfl
theorem aN{s:List Int}(h:k<s.length):s.drop k=s.getD k 0::s.drop (k+1):=by
 rw[List.drop_eq_getElem_cons h,zA0,zA1 h];rfl
end Go.Gl
namespace Go.Gl
open Go Go.Proofs
variable [Amb][NoQ]
def jo(n:Int):List Int->List Int->Bool
 |_,[]=>true
 |seen,v::p=>decide (1<=v)&&decide (v<=n)&& !(seen.contains v)&&jo n (seen++[v]) p
def aF(p:List Int):Bool:=jo p.length [] p
def ac(p:List Int):Bool:=decide (p.length<=8)&&aF p
theorem qi{x:Int}(h:k<l.length):(l.take (k+1)).contains x=((l.take k).contains x||decide (x=l.getD k 0)):=by
 rw[List.take_add_one,zA0,zA1 h];simp only[Option.toList_some,zH5,List.contains_append];congr 1;simp[List.contains_cons]
theorem Dm(h:k<l.length):l.contains (l.getD k 0)=true:=by
 rw[zA0,zA1 h];simp
theorem tN{n:Int}(h:k<p.length):jo n (p.take k) (p.drop k)=(decide (1<=p.getD k 0)&&decide (p.getD k 0<=n)&& !((p.take k).contains (p.getD k 0))&&jo n (p.take (k+1)) (p.drop (k+1))):=by
 rw[aN h,jo];congr 2;rw[List.take_add_one,zA0,zA1 h];rfl
theorem gc(l:List Int)(x:Int)(hl:l.length<=1099511627776):Fun Tryz.prog 85 [lI m0 l,.int .i64 x] [.bool (l.contains x)]:=by
 refine fO au [4] Tryz.func85 ?_;refine dE zF trivial (aD λzb=> ?_);refine ao (λ(k:Nat) S1=>(S1.e 0=.p (lI m0 l)/\eI S1 1 x/\eI S1 5 k)/\k<=l.length/\(l.take k).contains x=false) (λk=>l.length-k) 0 ?_ (dI ai trivial aj);rintro k S1 ⟨fL1,A1,A0⟩;refine dE ai fL1 (pC ?_ ?_ ?_)<;>intro zb hc
 .rw[<-hc,Dm (by omega)]
 .refine ak (k+1) (dC fL1 aj) (dC fL1 (aD λzb=> ?_))
  rw[qi (by omega),A0,Bool.false_or];exact zB8 (λe=>hc e.symm)
 .rw[<-A0,zA2 (by omega)]
theorem ah(p:List Int)(hl:p.length<=1048576):Fun Tryz.prog 39 [lI m0 p] [.bool (ac p)]:=by
 refine fO au [2] Tryz.func39 ?_;have cE1:=@aA;have cE2:=@gc;have cD1:=d7 (d8 18 [6,16]) [];refine dE zF trivial (aD λzb=> ?_);refine ao (λ(k:Nat) S1=>(S1.e 0=.p (lI m0 p)/\eI S1 3 k)/\k<=p.length/\(p.length<=8->aF p=jo p.length (p.take k) (p.drop k))) (λk=>p.length-k) 0 ?_ (dI ai trivial (aI λzb hc=> ?_));rintro k S1 ⟨fL1,A1,A0⟩;refine dE ai fL1 (Vp ?_ ?_ ?_ ?_ ?_)<;>intro zb hc;all_goals try (have c2:=A0 (by omega);rw[tN (by omega)]at c2)
 .simp only[ac,c2,hc];simp
 .refine ak (k+1) (dC fL1 aj) (dC fL1 (aD λzb=> ?_))
  intro h;rw[c2,hc,zB6 (by omega),zB6 (by omega)];rfl
 .simp only[ac,c2]
  rcases hc with hc|hc
  .rw[zB8 (by omega:¬1<=p.getD k 0)];simp
  .rw[zB8 (by omega:¬p.getD k 0<=(p.length:Int))];simp
 .rw[ac,zB8 (by omega)];rfl
 .by_cases h8:p.length<=8
  .rw[ac,A0 h8,zA6 (by omega),jo,zG1];congr 1;simp only[eq_iff_iff];omega
  .rw[ac,zB8 h8,zB8 (by omega)];rfl
 .rfl
theorem xB(p:List Int)(hl:p.length<=1048576):Fun Tryz.prog 215 [lI m0 p] [.bool (aF p)]:=by
 refine fO au [2] Tryz.func215 ?_;refine dE ai trivial (aD λzb=> ?_);refine nw (λ(k:Nat) (seen:List Bool) S1=>(S1.e 0=.p (lI m0 p)/\S1.e 10=.p (lI m0 p)/\eI S1 11 p.length/\eI S1 12 k)/\OwnL (S1.e 3) S1.h S1.n PV.bool ((seen).length) seen/\k<=p.length/\seen.length=p.length+1/\aF p=jo p.length (p.take k) (p.drop k)/\(∀v:Nat,1<=v->v<=p.length->seen.getD v false=(p.take k).contains (v:Int))) (λk _=>p.length-k) 0 (List.replicate (p.length+1) false) ?_ (dI zF trivial (aD λzb=> ?_));rintro k seen S1 ⟨fF1,A4,A1,A0,A3,B5⟩;obtain⟨A9,A2,B6⟩:=A4.ou;have fL1:=(aa fF1 A2);refine dE zF fL1 (aeN ?_ ?_ ?_ ?_ ?_ ?_ ?_ ?_ ?_ ?_ ?_ ?_ ?_ ?_ ?_)<;>intro zb hc;all_goals try rw[tN (by omega)]at A3
 all_goals try exact eQ
 .rw[A3,<-show((p.getD k 0).toNat:Int)=p.getD k 0 by omega,<-B5 _ (by omega) (by omega),hc];simp
 .refine jC (k+1) (seen.set (p.getD k 0).toNat true) (dC fL1 aj) (dC fL1 (bu ?_ ?_))<;>intro zb
  .rw[A3,zB6 (by omega),zB6 (by omega),<-show((p.getD k 0).toNat:Int)=p.getD k 0 by omega,<-B5 _ (by omega) (by omega),hc];rfl
  .intro v h1 h2
   rw[qi (by omega),<-B5 v h1 h2,zA0,List.getElem?_set];by_cases e:(p.getD k 0).toNat=v
   .rw[zB0 e,zB0 (by omega),zB6 (by omega)];simp
   .rw[zA8 e,zB8 (by omega),Bool.or_false,zA0]
 .rw[A3,zB8 (by omega:¬p.getD k 0<=(p.length:Int))];simp
 .rw[A3,zB8 (by omega:¬1<=p.getD k 0)];simp
 .rw[A3,zA6 (by omega)];rfl
 .intro v h1 h2;rw[zA0,List.getElem?_replicate];split<;>rfl
theorem ae(p:List Int)(hl:p.length<=1048576):Fun Tryz.prog 112 [lI m0 p] [.bool (ac p)]:=by
 refine fO au [2] Tryz.func112 ?_;have cE1:=@xB;refine dE ai trivial (f9 ?_ ?_)<;>intro zb hc
 .rw[ac,zB6 (by omega),zF4]
 .rw[ac,zB8 (by omega)];rfl
theorem az(l:List (List UInt8))(sep:List UInt8)(h1:l.length<=1099511627776)(h2:(Lib.join l sep).length<=1099511627776):
  Fun Tryz.prog 28 [.sl (.lent m0) (List.map .str l),.str sep] [.str (Lib.join l sep)]:=by
 refine Fun.of_plain Tryz.func28 rfl rfl rfl ?_;intro w F G vs _ hv;simp only[RepL]at hv;obtain⟨a,vs1,rfl,ha,b,vs2,rfl,hb,rfl⟩:=hv;have hb:=iR hb;subst hb;have e1:(l.map λs=>(⟨s.toArray⟩:ByteArray)).map (·.data.toList)=l:=by simp[Function.comp_def]
 by_cases hl:l=[]
 .subst hl
  obtain⟨a',cap,rfl⟩:=LF ha;exact(Tryz.strings_Join_none a' cap _ w).mono λe w' h=>⟨h.1.trans (by simp[Lib.join]),h.2▸Go.RowKit.Below.refl _ _⟩
 .obtain⟨B,off,cap,rfl,hc1,_,hB,hcells⟩:=LD ha hl
  have:=Tryz.strings_Join B off cap (l.map λs=>(⟨s.toArray⟩:ByteArray)) ⟨sep.toArray⟩ w hcells hB (by simp;omega) (by simpa using hc1) (by rw[e1];simp only;simpa using(by omega:(Lib.join l sep).length<=140737488355328));rw[e1,zB2]at this;simpa using this
theorem pT{a b:List Int}(ha:k<a.length)(hb:k<b.length):a.take (k+1)=b.take (k+1)↔a.take k=b.take k/\a.getD k 0=b.getD k 0:=by
 rw[List.take_add_one,List.take_add_one,zA0,zA0,zA1 ha,zA1 hb];simp only[Option.toList_some,zH5];constructor
 .intro h
  have:=List.append_inj h (by simp;omega);exact⟨this.1,by simpa using this.2⟩
 .rintro⟨h1,h2⟩;rw[h1,h2]
theorem HM{α:Type}{c:List α}{x:α}(h:i<c.length):(c.set i x).take (i+1)=c.take i++[x]:=by
 rw[List.take_add_one,List.take_set_of_le (zB1 _),List.getElem?_set_self h];rfl
theorem aq{α:Type}{l:List α}{d:α}(h:i<l.length):l.take (i+1)=l.take i++[l.getD i d]:=by
 rw[List.take_add_one,zA0,zA1 h];rfl
attribute [go_sem] List.not_mem_nil zD7 or_false
theorem CY{α:Type}{l:List (List α)}(h:i<l.length):l.drop i=l.getD i []::l.drop (i+1):=by
 rw[List.drop_eq_getElem_cons h,zA0,zA1 h];rfl
theorem am{α:Type}{l:List α}{d:α}(h:i<l.length):l.getD i d∈l:=by
 rw[zA0,zA1 h];exact List.getElem_mem h
theorem vK{n:Int}:∀{p seen:List Int},jo n seen p=true->∀v∈p,1<=v/\v<=n
 |[],_,_,v,h=>by simp at h
 |w::p,seen,h,v,hv=>by
  simp only[jo,zB9,zC2]at h;rcases zD7.1 hv with rfl|hv
  .exact⟨h.1.1.1,h.1.1.2⟩
  .exact vK h.2 v hv
theorem ju(h:aF p=true)(hi:i<p.length):1<=p.getD i 0/\p.getD i 0<=p.length:=by
 have:=vK h (p.getD i 0) (by rw[zA0,zA1 hi];simp);exact this
theorem al(h:ac p=true):p.length<=8/\aF p=true:=by
 simp only[ac,zB9,zC2]at h;exact h
def re(v:Int):UInt8:=UInt8.ofNat (48+v).toNat
theorem AB(h0:0<=v)(h1:v<=9):((re v).toNat:Int)=48+v:=by
 unfold re;rw[UInt8.toNat_ofNat'];omega
def yE:Nat->Nat->List UInt8->List UInt8
 |0,_,acc=>acc
 |f+1,m,acc=>if m=0 then acc else yE f (m/10) (re ((m % 10:Nat):Int)::acc)
theorem Od{f:Nat}(h:m≠0):yE (f+1) m acc=yE f (m/10) (re ((m % 10:Nat):Int)::acc):=by rw[yE,zA8 h]
theorem Dg:∀{f g m:Nat} {acc:List UInt8},m<2^f->m<2^g->yE f m acc=yE g m acc
 |0,0,m,acc,_,_=>rfl
 |0,g+1,m,acc,h,_=>by
  have:m=0:=by simp at h;omega
  subst this;rw[yE,yE,zB0 rfl]
 |f+1,0,m,acc,_,h=>by
  have:m=0:=by simp at h;omega
  subst this;rw[yE,yE,zB0 rfl]
 |f+1,g+1,m,acc,h,h'=>by
  rw[yE,yE];split
  .rfl
  .exact Dg (by rw[zG7]at h;omega) (by rw[zG7]at h';omega)
def oO(m:Nat)(acc:List UInt8):List UInt8:=yE 64 m acc
theorem wH:oO 0 acc=acc:=by rw[oO,yE,zB0 rfl]
theorem mL(h:m≠0)(hb:m<9223372036854775809):oO m acc=oO (m/10) (re ((m % 10:Nat):Int)::acc):=by
 rw[oO,Od h,oO];exact Dg (by omega) (by omega)
def cP(n:Int):List UInt8:=if n=0 then[48]else if n<0 then 45::oO n.natAbs []else oO n.natAbs []
theorem qW{n:Int}(h0:1<=n)(h1:n<=9):cP n=[re n]:=by
 rw[cP,zA8 (by omega),zA8 (by omega),mL (by omega) (by omega),show n.natAbs/10=0 by omega,wH];congr 2;omega
theorem Ua(x:Int):x=10*x.tdiv 10+x.tmod 10/\(0<=x->0<=x.tmod 10/\x.tmod 10<=9)/\(x<=0-> -9<=x.tmod 10/\x.tmod 10<=0):=by
 refine⟨by have:=Int.mul_tdiv_add_tmod x 10;omega,λh=> ?_,λh=> ?_⟩
 .rw[zI5 h];omega
 .have e:x.tmod 10= -((-x).tmod 10):=by rw[Int.neg_tmod,Int.neg_neg]
  rw[e,zI5 (by omega)];omega
theorem vH{a b l:Nat}(h:10*b<=a)(hb:a*10^l<=9223372036854775808):b*10^(l+1)<=9223372036854775808:=by
 refine zE0 ?_ hb;rw[zG7,Nat.mul_comm (10^l) 10,<-Nat.mul_assoc,Nat.mul_comm b 10];exact zD9 _ h
theorem T8:(10:Nat)^19=10000000000000000000:=by decide
theorem aL(n:Int)(h0: -9223372036854775808<=n)(h1:n<=9223372036854775807):Fun Tryz.prog 40 [.int .i64 n] [.str (cP n)]:=by
 refine fO au [2] Tryz.func40 ?_;have u3:(Tryz.prog.underlying 3).isSome=true:=by kernel_rfl
 refine dE zF trivial (f9 ?_ ?_)<;>intro zb hc
 .rw[hc];rfl
 .refine nw (λ(x:Int) (s:List UInt8) S1=>(eI S1 0 x/\S1.e 3=.p (.bool (decide (n<0)))/\S1.e 4=.p (.str s))/\ -9223372036854775808<=x/\x<=9223372036854775807/\oO x.natAbs s=oO n.natAbs []/\x.natAbs*10^s.length<=9223372036854775808/\s.length<=19/\(n<0->x<=0)/\(0<n->0<=x)) (λx _=>x.natAbs) n [] ?_ (dI zF trivial aj)
  rintro x s S1 ⟨fL1,A1,A0,A3,B5,C7,E4,c1_6⟩;have t1:=Ua x;have t2:x≠0->s.length<=18:=λhx=>by
   by_cases h:s.length<=18
   .exact h
   .have h2:s.length=19:=by omega
    rw[h2,T8]at B5;omega
  refine dE zF (aa fL1 @u3) ?_;all_goals try(apply nn;repeat' first|exact jb|apply aa|(apply nq;intro zb hc)|(apply np;intro zb)|intro j')<;>try apply nu
  all_goals try (rw[fU];omega)
  all_goals try (rw[vW];omega)
  all_goals try exact eQ
  .refine jC (x.tdiv 10) (re (0-x.tmod 10)::s) (dC fL1 aj) (dC fL1 (bu ?_ ?_))<;>intro zb
   all_goals try omega
   .rw[<-A3,mL (m:=x.natAbs) (by omega) (by omega)]
    have e1:x.natAbs/10=(x.tdiv 10).natAbs:=by omega
    have e2:((x.natAbs % 10:Nat):Int)=0-x.tmod 10:=by omega
    rw[e1,e2]
   .exact vH (by omega) B5
  .refine jC (x.tdiv 10) (re (x.tmod 10)::s) (dC fL1 aj) (dC fL1 (bu ?_ ?_))<;>intro zb
   all_goals try omega
   .rw[<-A3,mL (m:=x.natAbs) (by omega) (by omega)]
    have e1:x.natAbs/10=(x.tdiv 10).natAbs:=by omega
    have e2:((x.natAbs % 10:Nat):Int)=x.tmod 10:=by omega
    rw[e1,e2]
   .exact vH (by omega) B5
  .obtain rfl:x=0:=by omega
   rw[cP,zA8 (by omega),zB0 (by omega),<-A3,Int.natAbs_zero,wH]
  .obtain rfl:x=0:=by omega
   rw[cP,zA8 (by omega),zA8 (by omega),<-A3,Int.natAbs_zero,wH]
theorem pm{l:List (List UInt8)}(hk:k<l.length):Lib.join (l.take (k+1)) sep=(if k=0 then[]else Lib.join (l.take k) sep++sep)++l.getD k []:=by
 match l,k,hk with
 |x::r,0,_=>simp[Lib.join_one]
 |x::r,k+1,hk=>
  have hk':k<r.length:=by simpa using hk
  rw[List.take_succ_cons,List.take_succ_cons,Lib.join_cons,Lib.join_cons,Lib.joinTail_take_succ sep r k (r.getD k []) (by rw[zA0,zA1 hk'];rfl)];simp
theorem iS{l:List (List UInt8)}:(Lib.join (l.take k) sep).length<=(Lib.join l sep).length:=by
 match l,k with
 |[],k=>simp
 |x::r,0=>simp[Lib.join_nil]
 |x::r,k+1=>
  rw[List.take_succ_cons,Lib.join_cons,Lib.join_cons,zA3,zA3];have:=Lib.joinTail_take_le sep r k;omega
theorem fV:∀{l:List (List UInt8)},(∀x∈l,x.length<=n)->(Lib.join l sep).length<=l.length*(n+sep.length):=by
 intro l;have key:∀{l:List (List UInt8)},(∀x∈l,x.length<=n)->(Lib.joinTail sep l).length<=l.length*(n+sep.length):=by
  intro l
  induction l with
  |nil=>intro _;simp[Lib.joinTail]
  |cons x r ih=>
   intro h;have h1:=ih λy hy=>h y (by simp[hy]);have h2:=h x (by simp);have e:(Lib.joinTail sep (x::r))=sep++x++Lib.joinTail sep r:=by simp[Lib.joinTail]
   rw[e,zA3,zA3,zC1,Nat.succ_mul];omega
 cases l with
 |nil=>intro _;simp[Lib.join_nil]
 |cons x r=>
  intro h;have h1:=key (l:=r) λy hy=>h y (by simp[hy]);have h2:=h x (by simp);rw[Lib.join_cons,zA3,zC1,Nat.succ_mul];omega
theorem Ku:List.map (λb:UInt8=>PV.int .u8 (b.toNat:Int)) s=List.map Pb s:=_root_.id rfl
attribute [local go_sem] Ku
theorem bj(l:List (List UInt8))(sep:List UInt8)(h1:l.length<=1099511627776)(h2:(Lib.join l sep).length<=1099511627776):Fun Tryz.prog 38 [.sl (.lent m0) (List.map PV.str l),.str sep] [.str (Lib.join l sep)]:=by
 refine fO au [4] Tryz.func38 ?_;refine dE zF trivial (aD λzb=> ?_);refine ao (λ(k:Nat) S1=>(S1.e 0=.p (.sl (.lent m0) (List.map PV.str l))/\S1.e 1=.p (.str sep)/\eI S1 6 k)/\OwnL (S1.e 5) S1.h S1.n Pb ((Lib.join (l.take k) sep).length) (Lib.join (l.take k) sep)/\k<=l.length) (λk=>l.length-k) 0 ?_ (dI ai trivial aj);rintro k S1 ⟨fF1,A7,A1⟩;obtain⟨B4,A5,B8⟩:=A7.ou;have fL1:=(aa fF1 A5);have b2:=iS (l:=l) (sep:=sep) (k:=k+1);have b1:k<l.length->0<k->(Lib.join (l.take k) sep).length+(sep.length+(l.getD k []).length)<=1099511627776:=λh h0=>by
  rw[pm h,zA8 (by omega)]at b2;simp only[zA3]at b2;omega
 have b0:k<l.length->k=0->(Lib.join (l.take k) sep).length+(l.getD k []).length<=1099511627776:=λh h0=>by
  subst h0;rw[pm h,zB0 rfl]at b2;simp[Lib.join_nil]at b2 |-;omega
 refine dE ai (aa fL1 (aa @agm @zE9)) (pC ?_ ?_ ?_)<;>intro zb hc
 .refine ak (k+1) (dC fL1 aj) (dC fL1 (bu ?_ ?_))<;>intro zb
  all_goals(rw[pm (by omega),zA8 (by omega)];simp only[zA3,zA7,zE9])
 .refine ak (k+1) (dC fL1 aj) (dC fL1 (bu ?_ ?_))<;>intro zb
  all_goals(obtain rfl:k=0:=by omega)
  all_goals(rw[pm (by omega),zB0 rfl];simp[Lib.join_nil])
 .rw[zA2 (by omega)]
def cO(p:List Int):List UInt8:=if ac p=true then(if p=[]then[45]else p.map re)else[]
theorem kv(p:List Int):(cO p).length<=8:=by
 unfold cO;split
 .rename_i h
  have:=(al h).1;split<;>simp;omega
 .simp
theorem aH(p:List Int)(hl:p.length<=1048576):Fun Tryz.prog 20 [lI m0 p] [.str (cO p)]:=by
 refine fO au [2] Tryz.func20 ?_;have cE1:=@ah;have cE2:=@aL;refine dE ai trivial (pC ?_ ?_ ?_)<;>(intro zb hc;repeat (have zc:=zb.1;replace zb:=zb.2))
 .rw[cO,zA8 (by rw[hc];decide)]
 .rw[cO,zB0 (by assumption),zB0 (zA4 (by omega))]
 .have hp:ac p=true:=by assumption
  have hn:¬(p.length:Int)=0:=by assumption
  have pf:=al hp;refine ao (λ(k:Nat) S1=>(S1.e 0=.p (lI m0 p)/\S1.e 3=.p (.str ((p.take k).map re))/\eI S1 4 k)/\k<=p.length) (λk=>p.length-k) 0 ?_ (dI ai trivial aj);rintro k S1 ⟨fL1,A1⟩;have q:k<p.length->1<=p.getD k 0/\p.getD k 0<=8:=λh=>by have:=ju pf.2 h;omega
  refine dE ai fL1 (pC ?_ ?_ ?_)<;>(intro zb hc;repeat (have zc:=zb.1;replace zb:=zb.2))
  .rw[qW (q (by omega)).1 (by have:=(q (by omega)).2;omega)];simp;omega
  .refine ak (k+1) (dC fL1 aj) (dC fL1 (aD ?_))<;>intro zb
   rw[qW (q (by omega)).1 (by have:=(q (by omega)).2;omega),aq (d:=0) (by omega),zE2];rfl
  .rw[cO,zB0 hp,zA8 (λe=>hn (by rw[e];rfl)),zA2 (by omega)]
theorem be(p:List Int)(hl:p.length<=1048576):Fun Tryz.prog 111 [lI m0 p] [.str (cO p)]:=by
 refine fO au [2] Tryz.func111 ?_;have cE1:=@ae;refine dE ai trivial (pC ?_ ?_ ?_)<;>(intro zb hc;repeat (have zc:=zb.1;replace zb:=zb.2))
 .rw[cO,zA8 (by rw[hc];decide)]
 .rw[cO,zB0 (by assumption),zB0 (zA4 (by omega))]
 .have hp:ac p=true:=by assumption
  have hn:¬(p.length:Int)=0:=by assumption
  have pf:=al hp;refine ao (λ(k:Nat) S1=>(S1.e 13=.p (lI m0 p)/\eI S1 14 p.length/\eI S1 15 k)/\OwnL (S1.e 3) S1.h S1.n Pb (((p.take k).map re).length) ((p.take k).map re)/\k<=p.length) (λk=>p.length-k) 0 ?_ (dI zF trivial aj);rintro k S1 ⟨fF1,A4,A1⟩;obtain⟨A9,A2,B6⟩:=A4.ou;have fL1:=(aa fF1 A2);have q:k<p.length->1<=p.getD k 0/\p.getD k 0<=8:=λh=>by have:=ju pf.2 h;omega
  have u3:(Tryz.prog.underlying 3).isSome=true:=by kernel_rfl
  refine dE zF (aa fL1 @u3) (TX ?_ ?_ ?_ ?_ ?_ ?_ ?_ ?_)<;>(intro zb hc;repeat (have zc:=zb.1;replace zb:=zb.2));all_goals try have q1:=q (by omega)
  all_goals try (rw[vW];omega)
  all_goals try exact eQ
  .refine ak (k+1) (dC fL1 aj) (dC fL1 (aD ?_))<;>intro zb
   rw[VL (by omega) (by omega),aq (d:=0) (by omega)];simp only[zE2,zC3,zE8];rfl
  .rw[cO,zB0 hp,zA8 (λe=>hn (by rw[e];rfl)),zA2 (by omega)]
end Go.Gl
namespace Go.Gl
open Go Go.Proofs
variable [Amb][NoQ]
class TabA[Amb]:Prop where
 has:∀w:World,(∀B o,Amb.tb B=some o->w.heap[B]? =some o)->Lib.TabIs Tryz.prog w "internal/strconv.uint64pow10" .u64 Lib.pow10Tab
variable [TabA]
theorem Df:∀(m:Nat) (acc:List UInt8),m≠0->m<9223372036854775809->oO m acc=Lib.decDigits m++acc:=by
 intro m
 induction m using Nat.strongRecOn with
 |_ m ih=>
  intro acc h hb;rw[mL h hb,Lib.decDigits];have e:re ((m % 10:Nat):Int)=UInt8.ofNat (48+m % 10):=by unfold re;congr 1
  split
  .rw[show m/10=0 by omega,wH,e,show m % 10=m by omega];rfl
  .rw[ih (m/10) (by omega) _ (by omega) (by omega),e,zA7];rfl
theorem yq{n:Int}(h0: -9223372036854775808<=n)(h1:n<=9223372036854775807):Lib.itoa n=cP n:=by
 unfold Lib.itoa cP;by_cases hz:n=0
 .subst hz;rw[zA8 (by omega),zB0 rfl,Lib.decDigits,dif_pos (by omega)];rfl
 .rw[zA8 hz]
  by_cases hn:n<0
  .rw[zB0 hn,zB0 hn,Df _ _ (by omega) (by omega),zC0]
  .rw[zA8 hn,zA8 hn,Df _ _ (by omega) (by omega),zC0,show n.toNat=n.natAbs by omega]
theorem dZ{n:Int}(h0: -9223372036854775808<=n)(h1:n<=9223372036854775807):(cP n).length<=21:=by
 rw[<-yq h0 h1];exact Lib.itoa_length_le n h0 h1
theorem vi(n:Int)(h0: -9223372036854775808<=n)(h1:n<=9223372036854775807):Fun Tryz.prog 144 [.int .i64 n] [.str (cP n)]:=by
 refine Fun.of_plain Tryz.func144 rfl rfl rfl ?_;intro w F G vs hamb hv;simp only[RepL]at hv;obtain⟨a,vs1,rfl,ha,rfl⟩:=hv;have ha:=zG ha;subst ha;refine(Tryz.strconv_Itoa n h0 h1 w (TabA.has w hamb)).mono λe w' h=> ?_;obtain⟨he,k,os,hw⟩:=h;subst hw;exact⟨by rw[he,yq h0 h1],Lib.below_grow _ _ (zB1 _) k os⟩
theorem aQ(n:Int)(h0: -9223372036854775808<=n)(h1:n<=9223372036854775807):Fun Tryz.prog 66 [.int .i64 n] [.str (cP n)]:=by
 refine fO au [2] Tryz.func66 ?_;have cE1:=@vi;exact dE ai trivial aj
def jI(l:List Int):List (List UInt8):=l.map cP
theorem yp:jI (l.take k)=(jI l).take k:=by simp[jI,List.map_take]
def jE(l:List Int):List UInt8:=if l=[]then[45]else Lib.join (jI l) [44]
theorem oK(hb:∀x∈l, -9223372036854775808<=x/\x<=9223372036854775807):(Lib.join (jI l) [44]).length<=l.length*22:=by
 have:=fV (n:=21) (sep:=[44]) (l:=jI l) (λx hx=>by
  obtain⟨y,hy,rfl⟩:=zD0.1 hx;exact dZ (hb y hy).1 (hb y hy).2)
 simpa[jI]using this
theorem mB(hb:∀x∈l, -9223372036854775808<=x/\x<=9223372036854775807):(jE l).length<=l.length*22+1:=by
 unfold jE;split
 .simp
 .have:=oK hb;omega
theorem kz(l:List Int)(hl:l.length<=1048576)(hb:∀x∈l, -9223372036854775808<=x/\x<=9223372036854775807):Fun Tryz.prog 190 [lI m0 l] [.str (Lib.join (jI l) [44])]:=by
 refine fO au [2] Tryz.func190 ?_;have cE1:=@aL;have cE2:=@bj;have b9:=oK hb;have b8:(jI l).length=l.length:=by simp[jI]
 refine dE zF trivial (aD λzb=> ?_);refine ao (λ(k:Nat) S1=>(S1.e 0=.p (lI m0 l)/\eI S1 4 k)/\OwnL (S1.e 3) S1.h S1.n PV.str ((jI (l.take k)).length) (jI (l.take k))/\k<=l.length) (λk=>l.length-k) 0 ?_ (dI ai trivial aj);rintro k S1 ⟨fF1,A4,A1⟩;obtain⟨A9,A2,B6⟩:=A4.ou;have fL1:=(aa fF1 A2);have b7:(jI (l.take k)).length=k:=by simp[jI];omega
 have b6:=iS (l:=jI l) (sep:=[44]) (k:=k);rw[<-yp]at b6;have q:k<l.length-> -9223372036854775808<=l.getD k 0/\l.getD k 0<=9223372036854775807:=λh=>hb _ (am h);refine dE ai fL1 (f9 ?_ ?_)<;>intro zb hc
 .refine ak (k+1) (dC fL1 aj) (dC fL1 (bu ?_ ?_))<;>intro zb
  all_goals simp[jI,aq (d:=0) (show k<l.length by omega)]
 all_goals(rw[zA2 (by omega)])
theorem BO(h:(l.length:Int)=0):jE l=[45]:=by rw[jE,zB0 (zA4 (by omega))]
theorem x9(h:¬(l.length:Int)=0):jE l=Lib.join (jI l) [44]:=by rw[jE,zA8 (by rintro rfl;exact h rfl)]
theorem cG(l:List Int)(hl:l.length<=1048576)(hb:∀x∈l, -9223372036854775808<=x/\x<=9223372036854775807):Fun Tryz.prog 98 [lI m0 l] [.str (jE l)]:=by
 refine fO au [2] Tryz.func98 ?_;have cE1:=@kz;refine dE ai trivial (f9 ?_ ?_)<;>intro zb hc
 .rw[BO hc]
 .rw[x9 hc]
theorem ba(l:List Int)(hl:l.length<=1048576)(hb:∀x∈l, -9223372036854775808<=x/\x<=9223372036854775807):Fun Tryz.prog 138 [lI m0 l] [.str (jE l)]:=by
 refine fO au [2] Tryz.func138 ?_;have cE1:=@aQ;have cE2:=@az;have b9:=oK hb;have b8:(jI l).length=l.length:=by simp[jI]
 refine dE ai trivial (f9 ?_ ?_)<;>intro zb hc
 .rw[BO hc]
 .have hn:=hc
  rw[x9 hc];refine ao (λ(k:Nat) S1=>(S1.e 10=.p (lI m0 l)/\eI S1 11 l.length/\eI S1 12 k)/\OwnL (S1.e 3) S1.h S1.n PV.str ((jI (l.take k)).length) (jI (l.take k))/\k<=l.length) (λk=>l.length-k) 0 ?_ (dI ai trivial aj);rintro k S1 ⟨fF1,A4,A1⟩;obtain⟨A9,A2,B6⟩:=A4.ou;have fL1:=(aa fF1 A2);have b7:(jI (l.take k)).length=k:=by simp[jI];omega
  have b6:=iS (l:=jI l) (sep:=[44]) (k:=k);rw[<-yp]at b6;have q:k<l.length-> -9223372036854775808<=l.getD k 0/\l.getD k 0<=9223372036854775807:=λh=>hb _ (am h);refine dE ai fL1 (f9 ?_ ?_)<;>intro zb hc
  .refine ak (k+1) (dC fL1 aj) (dC fL1 (bu ?_ ?_))<;>intro zb
   all_goals simp[jI,aq (d:=0) (show k<l.length by omega)]
  all_goals(rw[zA2 (by omega)])
end Go.Gl
namespace Go.Gl
open Go Go.Proofs
variable [Amb][NoQ]
def mb(p:Int->Bool):List Int->Nat->Int
 |[],_=> -1
 |x::l,i=>if p x then i else mb p l (i+1)
theorem wl{p:Int->Bool}:∀{l:List Int} {i:Nat},decide (0<=mb p l i)=l.any p
 |[],_=>rfl
 |x::l,i=>by
  rw[mb,List.any_cons];split
  .rename_i h;rw[h,Bool.true_or];exact zB6 (by omega)
  .rename_i h;rw[wl,Bool.eq_false_iff.2 h,Bool.false_or]
theorem afO(h:i<l.length):l.getD i 0∈l:=by
 rw[zA0,zA1 h];exact List.getElem_mem h
theorem aJ(l:List Int)(g:FuncId)(caps:List PV)(p:Int->Bool)(hl:l.length<=1099511627776)(hp:∀x∈l,Fun Tryz.prog g (.int .i64 x::caps.map PV.cell) [.bool (p x)]):Fun Tryz.prog 265 [lI m0 l,.fn g [] caps] [.int .i64 (mb p l 0)]:=by
 refine fO au [4] Tryz.func265 ?_;refine dE zF trivial (aD λzb=> ?_);refine ao (λ(k:Nat) S1=>(S1.e 0=.p (lI m0 l)/\S1.e 1=.p (.fn g [] caps)/\eI S1 7 l.length/\eI S1 8 k)/\k<=l.length/\mb p l 0=mb p (l.drop k) k) (λk=>l.length-k) 0 ?_ (dI ai trivial aj);rintro k S1 ⟨fL1,A1,A0⟩;have cE1:=@hp;refine dE ai fL1 (AN ?_ ?_ ?_ ?_)<;>intro zb hc
 .exact afO hc
 .rw[A0,aN (by omega),mb,zB0 hc]
 .refine ak (k+1) (dC fL1 aj) (dC fL1 (aD λzb=> ?_))
  rw[A0,aN (by omega),mb,zA8 (by rw[hc];decide)]
 .rw[A0,zA6 (by omega),mb]
theorem aS(l:List Int)(g:FuncId)(caps:List PV)(p:Int->Bool)(hl:l.length<=1099511627776)(hp:∀x∈l,Fun Tryz.prog g (.int .i64 x::caps.map PV.cell) [.bool (p x)]):Fun Tryz.prog 147 [lI m0 l,.fn g [] caps] [.bool (l.any p)]:=by
 refine fO au [4] Tryz.func147 ?_;have cE1:=@aJ;have cE1:=(λm0=>aJ (m0:=m0) l g caps p hl hp);have cE2:=@aJ;refine dE zF trivial (aD λzb=> ?_);rw[wl]
theorem aW(l:List Int)(hl:l.length<=1099511627776):
  Fun Tryz.prog 63 [.sl (.lent m0) (List.map (.int .i64) l)] [.sl .own (List.map (.int .i64) l)]:=by
 refine Fun.of_row 3 Tryz.func63 rfl rfl uL (by intro x hx;rw[zD0]at hx;obtain⟨_,_,rfl⟩:=hx;rfl) ?_;intro w F G vs _ hv;simp only[RepL]at hv;obtain⟨a,vs1,rfl,ha,rfl⟩:=hv;have e1:(l.map (PV.int .i64)).map Jn=l.map (Value.int .i64):=by simp[Function.comp_def,Jn,Gn]
 simp only[RepP]at ha;obtain⟨a,cap,rfl,h1,h2,ho,h3⟩:=ha;rw[e1,zB2]at*
 by_cases hn:a=none
 .subst hn
  have hl0:l=[]:=by
   rcases h3 with h3|⟨B,off,h3,_⟩
   .simpa using h3
   .cases h3
  subst hl0;exact(Tryz.slices_Clone_int_nil _ _ w).mono λe w' h=>⟨_,h.1,⟨by simp,.inl ⟨rfl,rfl⟩⟩,h.2▸Go.RowKit.Below.refl _ _⟩
 .obtain⟨ad,rfl⟩:∃ad,a=some ad:=by cases a with|none=>exact absurd rfl hn|some ad=>exact⟨ad,rfl⟩
  by_cases hl0:l=[]
  .subst hl0
   exact(Tryz.slices_Clone_int_zero ad cap w).mono λe w' ⟨v,hv,hr,_,hw⟩=>⟨v,hv,hr,hw⟩
  .rcases h3 with h3|⟨B,off,h3,_,_,hc⟩
   .simp at h3;exact absurd h3 hl0
   .cases h3
    rw[aY]at hc;have:=Tryz.slices_Clone_int B off l.length cap l w (zB1 _) (by omega) (λj hj=>by
     obtain⟨u,hu,_,hr⟩:=hc j (.int .i64 (l.getD j 0)) (by rw[zA5,zA0,zA1 hj];rfl);rw[zG hr]at hu;exact hu)
    rw[zE6]at this;exact this.mono λe w' ⟨v,hv,hr,_,hw⟩=>⟨v,hv,hr,hw⟩
theorem CD{p:Int->Bool}:∀{l:List Int} {k:Nat} {i:Nat},k<l.length->(∀j,j<k->p (l.getD j 0)=false)->p (l.getD k 0)=true->mb p l i=i+k
 |[],k,i,h,_,_=>by simp at h
 |x::l,0,i,_,_,h=>by simp at h;simp[mb,h]
 |x::l,k+1,i,h,h1,h2=>by
  have h0:=h1 0 (by omega);simp only[List.getD_cons_zero]at h0;rw[mb,h0];simp only[Bool.false_eq_true,zE3];rw[CD (k:=k) (by simpa using h) (λj hj=>by simpa using h1 (j+1) (by omega)) (by simpa using h2)];push_cast;omega
theorem yj{p:Int->Bool}:∀{l:List Int} {i:Nat},(∀j,j<l.length->p (l.getD j 0)=false)->mb p l i= -1
 |[],_,_=>rfl
 |x::l,i,h=>by
  have h0:=h 0 (by simp);simp only[List.getD_cons_zero]at h0;rw[mb,h0];simp only[Bool.false_eq_true,zE3];exact yj λj hj=>by simpa using h (j+1) (by simp;omega)
theorem mV(l:List Int)(x:Int)(hl:l.length<=1099511627776):Fun Tryz.prog 332 [lI m0 l,.int .i64 x] [.int .i64 (mb (λy=>decide (x=y)) l 0)]:=by
 refine fO au [4] Tryz.func332 ?_;refine dE zF trivial (aD λzb=> ?_);refine ao (λ(k:Nat) S1=>(S1.e 0=.p (lI m0 l)/\eI S1 1 x/\eI S1 7 l.length/\eI S1 8 k)/\k<=l.length/\(∀j,j<k->decide (x=l.getD j 0)=false)) (λk=>l.length-k) 0 ?_ (dI ai trivial aj);rintro k S1 ⟨fL1,A1,A0⟩;refine dE ai fL1 (pC ?_ ?_ ?_)<;>intro zb hc
 .rw[CD (k:=k) (by omega) A0 (by simpa using hc)];push_cast;omega
 .refine ak (k+1) (dC fL1 aj) (dC fL1 (aD λzb=> ?_))
  intro j hj;by_cases e:j=k
  .subst e;simpa using hc
  .exact A0 j (by omega)
 .rw[yj λj hj=>A0 j (by omega)]
theorem cA(l:List Int)(x:Int)(hl:l.length<=1099511627776):Fun Tryz.prog 261 [lI m0 l,.int .i64 x] [.bool (l.contains x)]:=by
 refine fO au [4] Tryz.func261 ?_;have cE1:=@mV;refine dE ai trivial (aD λzb=> ?_);rw[wl,Bool.eq_iff_iff,List.any_eq_true,List.contains_iff_mem];constructor
 .rintro⟨y,hy,e⟩;rw[zC2]at e;exact e▸hy
 .intro h;exact⟨x,h,zB6 rfl⟩
def jg(p:List Int)(j:Nat):List Int:=((List.range j).map λi:Nat=>(i:Int)+1).filter λv=> !p.contains v
theorem EJ:jg p (j+1)=jg p j++(if p.contains ((j:Int)+1)then[]else[(j:Int)+1]):=by
 grind [jg,zF7]
theorem Ip:(jg p j).length<=j:=by
 grind [jg]
def fD(p:List Int)(j:Nat):List (List Int):=(jg p j).map λv=>p++[v]
theorem kj:fD p (j+1)=fD p j++(if p.contains ((j:Int)+1)then[]else[p++[(j:Int)+1]]):=by
 grind [fD,EJ]
theorem su:(fD p j).length<=j:=by grind [fD,Ip]
def fx(n:Nat):Nat->List (List Int)->List (List Int)
 |0,L=>L
 |k+1,L=>fx n k (L.flatMap λp=>fD p n)
theorem GI{n:Nat}:∀{k:Nat} {A B:List (List Int)},fx n k (A++B)=fx n k A++fx n k B
 |0,_,_=>rfl
 |k+1,A,B=>by simp only[fx,List.flatMap_append,GI]
theorem oz{n:Nat}:∀{k:Nat} {L:List (List Int)},fx n (k+1) L=(fx n k L).flatMap λp=>fD p n
 |0,_=>rfl
 |k+1,L=>by rw[fx,oz (k:=k),<-fx]
theorem Ab{n:Nat}:∀{k:Nat},fx n k []=[]
 |0=>rfl
 |k+1=>by rw[fx];exact Ab
theorem sq{n:Nat}:∀{L:List (List Int)},(L.flatMap λp=>fD p n).length<=L.length*n
 |[]=>by simp
 |p::L=>by
  have:=sq (n:=n) (L:=L);grind [su,Nat.succ_mul]
theorem uN{n:Nat}(hn:n<=8):∀{k:Nat} {L:List (List Int)},(fx n k L).length<=L.length*8^k
 |0,L=>by simp[fx]
 |k+1,L=>by
  rw[fx,zG7];refine zE0 (uN hn) ?_;have h1:=sq (n:=n) (L:=L);have h2:L.length*n<=L.length*8:=Nat.mul_le_mul_left _ hn
  calc _<=(L.length*8)*8^k:=zD9 _ (zE0 h1 h2)
   _=_:=by grind
theorem uM{n:Nat}:∀{k m:Nat} {L:List (List Int)},(∀l∈L,l.length=m)->∀l∈fx n k L,l.length=m+k
 |0,m,L,h,l,hl=>by grind [fx]
 |k+1,m,L,h,l,hl=>by
  rw[fx]at hl;have:=uM (k:=k) (m:=m+1) (λq hq=>by
   grind [fD]) l hl
  omega
def dz(n:Nat):List (List Int):=fx n n [[]]
theorem s9(hn:n<=8):(dz n).length<=8^8:=by
 have h1:=uN hn (k:=n) (L:=[[]]);have h2:8^n<=8^8:=Nat.pow_le_pow_right (by omega) hn;grind [dz]
theorem ke:∀l∈dz n,l.length=n:=λl hl=>by
 have:=uM (m:=0) (by simp) l hl;omega
theorem T7{α:Type}{l:List α}{x:α}:List.take (l.length+1) (l++[x])=l++[x]:=zA2 (by simp)
theorem ML(hn:n<=8)(hk:k<=8):(fx n k [[]]).length<=8^8:=by
 have h1:=uN hn (k:=k) (L:=[[]]);have h2:8^k<=8^8:=Nat.pow_le_pow_right (by omega) hk;grind
def Ec:FuncId->List Bool:=λf=>if f=4294967297 then[true,false,false,false]else[]
theorem Qp:Ec f=if f=4294967297 then[true,false,false,false]else[]:=_root_.id rfl
theorem JQ:ga Ec=false/\gu Ec=true/\gs Ec=false/\gr Ec=false/\gB Ec=false:=⟨rfl,rfl,rfl,rfl,rfl⟩
attribute [go_sem] Qp JQ
theorem na(n:Nat)(h1:n<=8):Fun Tryz.prog 338 [.int .i64 n] [.dl (List.map (List.map (PV.int .i64)) (dz n))]:=by
 refine fO Ec [2] Tryz.func338 ?_;have cE1:=@cA;have cE2:=@aW;refine dE zF trivial (aD λzb=> ?_);refine ao (λ(i:Nat) S1=>(eI S1 0 n/\eI S1 10 n/\eI S1 11 i)/\DwnL (S1.e 3) S1.h S1.n (PV.int .i64) ((fx n i [[]]).length) (fx n i [[]])/\i<=n) (λi=>n-i) 0 ?_ (dI zF trivial aj);rintro i S1 ⟨fF1,A4,A1⟩;obtain⟨A9,A2,B6⟩:=A4.ou;have fL1:=(aa fF1 A2);have b1:(fx n i [[]]).length<=8^8:=ML h1 (by omega);refine dE zF fL1 (f9 ?_ ?_)<;>intro zb hc;refine ao (λ(j:Nat) S2=>(eI S2 0 n/\eI S2 10 n/\eI S2 11 i/\eI S2 15 ((fx n i [[]]).length)/\eI S2 16 j)/\DwnL (S2.e 14) S2.h S2.n (PV.int .i64) ((fx n i [[]]).length) (fx n i [[]])/\DwnL (S2.e 4) S2.h S2.n (PV.int .i64) ((((fx n i [[]]).take j).flatMap (λp=>fD p n)).length) (((fx n i [[]]).take j).flatMap (λp=>fD p n))/\j<=(fx n i [[]]).length/\NId (S2.e 4) (S2.e 14)/\S1.n<=S2.n) (λj=>(fx n i [[]]).length-j) 0 ?_ (dI ai fL1 aj);rintro j S2 ⟨fF2,L1,E5,A6,B1,D3⟩;obtain⟨S5,I5,S6⟩:=L1.ou;obtain⟨I6,D4,I7⟩:=E5.ou;have di2_4i2_14:=(B1).ou D4.1 I5.1;have fL2:=(aa fF2 (aa I5 (aa D4 di2_4i2_14)));have b2:((fx n i [[]]).take j).length<=8^8:=by simp;omega
 have b3:=zE0 (sq (n:=n) (L:=(fx n i [[]]).take j)) (zI9 b2 h1);refine dE ai fL2 (f9 ?_ ?_)<;>intro zb hc
 .refine ao (λ(v:Nat) S4=>eI S4 0 n/\DwnL (S4.e 14) S4.h S4.n (PV.int .i64) ((fx n i [[]]).length) (fx n i [[]])/\DwnL (S4.e 4) S4.h S4.n (PV.int .i64) ((((fx n i [[]]).take j).flatMap (λp=>fD p n)++fD ((fx n i [[]]).getD j []) v).length) (((fx n i [[]]).take j).flatMap (λp=>fD p n)++fD ((fx n i [[]]).getD j []) v)/\InnL (S4.e 6) (S4.e 14) j (((fx n i [[]]).getD j []).length)/\eI S4 7 ((v+1))/\eI S4 10 n/\eI S4 11 i/\eI S4 15 ((fx n i [[]]).length)/\eI S4 16 j/\v<=n/\j<(fx n i [[]]).length/\NId (S4.e 4) (S4.e 14)/\S2.n<=S4.n) (λv=>n-v) 0 ?_ (dI ai fL2 (bu (λzb=> ?_) λzb=> ?_))
  rintro v S4 ⟨S7,L2,L3,I8,S8,S9,U0,U1,U2,I9,K4,E9,K5⟩;obtain⟨L4,L5,U3,U4⟩:=L2.out;obtain⟨L6,P6,U5,U6⟩:=L3.out;have U7:=(I8).out L5;have k4_0:=(E9).out P6 L5;have U8:=dJ (x:=L4) (n:=S4.n);have U9:=dJ (x:=L6) (n:=S4.n);have di4_14i4_4:=qp (x:=L4) (y:=L6);have fL4:=(aa U7 (aa S7 (aa S8 (aa S9 (aa U0 (aa U1 (aa U2 (aa L5 (aa U3 (aa P6 (aa U5 (aa U8 (aa U9 di4_14i4_4)))))))))))));have b4:=su (p:=(fx n i [[]]).getD j []) (j:=v);have b5:((fx n i [[]]).getD j []).length=0+i:=uM (by simp) _ (am K4);refine dE ai fL4 (pC ?_ ?_ ?_)<;>intro zb hc
  .refine ak (v+1) (dC fL4 aj) (dC fL4 (bu ?_ ?_))<;>intro zb
   all_goals(rw[kj,hc,zA8 (by decide)]<;>simp only[zA7,zA3,zC1,List.length_nil,zE9])
  .refine ak (v+1) (dC fL4 aj) (dC fL4 (bu ?_ ?_))<;>intro zb
   all_goals(rw[kj,hc,zB0 rfl,zC0])
  .refine ak (j+1) (dC fL4 aj) (dC fL4 (bu ?_ ?_))<;>intro zb
   all_goals(obtain rfl:v=n:=by omega)
   all_goals(rw[aq (d:=[]) (by omega),List.flatMap_append];simp)
  .simp[fD,jg]
  .simp[fD,jg]
 .refine ak (i+1) (dC fL2 aj) (dC fL2 (bu ?_ ?_))<;>intro zb
  all_goals(rw[oz,zA2 (by omega)])
 .obtain rfl:i=n:=by omega
  rfl
def xv:FuncId->List Bool:=λf=>if f=348 then[false,false,true]else if f=8589934940 then[false,true]else[]
theorem Qr:xv f=if f=348 then[false,false,true]else if f=8589934940 then[false,true]else[]:=_root_.id rfl
theorem JS:ga xv=false/\gu xv=false/\gs xv=false/\gr xv=false/\gB xv=false:=⟨rfl,rfl,rfl,rfl,rfl⟩
attribute [go_sem] Qr JS
theorem xo(n:Nat)(h8:n<=8):∀(d:Nat) (head:List Int) (out:List (List Int)),head.length+d=n->out.length+8^d<=1099511627776->CallT Tryz.prog true 348 [.pv (.int .i64 n),.pv (lI false head),.mu false (List.map (cK false) out)] [none,none,none] [.sl .own (List.map (cK false) (out++fx n d [head]))]:=by
 intro d
 induction d with
 |zero=>
  intro head out hd ho;refine CallT.of (sg:=xv) (ts:=[6]) mo Tryz.func348 rfl rfl rfl rfl (by kernel_rfl) (by simp only[go_sem]) rfl rfl ?_;have cE1:=@gc;exact dE dN trivial aj;all_goals(rw[zA2 (by simp)];rfl)
 |succ d ih=>
  intro head out hd ho;refine CallT.of (sg:=xv) (ts:=[6]) mo Tryz.func348 rfl rfl rfl rfl (by kernel_rfl) (by simp only[go_sem]) rfl rfl ?_;have cE1:=@gc;refine dE dN trivial (aI λzb hc=> ?_);refine ao (λ(v:Nat) S1=>(eI S1 0 n/\S1.e 1=.p (lI false head)/\eI S1 7 ((v+1)))/\OwnM (S1.e 2) S1.h S1.n (cK false) ((out++fx n d (fD head v)).length) (out++fx n d (fD head v))/\v<=n) (λv=>n-v) 0 ?_ (dI ai trivial (bu (λzb=> ?_) λzb=> ?_));rintro v S1 ⟨fF1,E6,A1⟩;obtain⟨D8,P7,G6,J0⟩:=E6.ou;have fL1:=(aa fF1 G6);have b1:=uN h8 (k:=d) (L:=fD head v);have b2:=su (p:=head) (j:=v);have b3:(fD head v).length*8^d<=v*8^d:=zD9 _ b2;have cM1:=@ih;refine dE dN fL1 (AN ?_ ?_ ?_ ?_)<;>intro zb hc
  .have b4:=zD9 (8^d) (show v+1<=8 by omega)
   have b5:8^(d+1)=8*8^d:=by rw[zG7,Nat.mul_comm]
   rw[Nat.succ_mul]at b4;rw[zA3];omega
  .refine ak (v+1) (dC fL1 aj) (dC fL1 (bu ?_ ?_))<;>intro zb
   all_goals(rw[kj,hc,zA8 (by decide),GI];try simp only[T7,zA3,zA7,zE9])
  .refine ak (v+1) (dC fL1 aj) (dC fL1 (bu ?_ ?_))<;>intro zb
   all_goals(rw[kj,hc,zB0 rfl,zC0])
  .obtain rfl:v=n:=by omega
   rw[fx,List.flatMap_cons,List.flatMap_nil,zC0]
  .rw[show fD head 0=[]by simp[fD,jg],Ab,zC0]
  .rw[show fD head 0=[]by simp[fD,jg],Ab,zC0]
def s8(n:Int):List (List Int):=if 0<=n/\n<=6 then dz n.toNat else[]
theorem ob(n:Int):Fun Tryz.prog 291 [.int .i64 n] [.sl .own (List.map (cK false) (s8 n))]:=by
 have h8:=λ(a:0<=n) (b:n<=6)=>xo n.toNat (by omega) n.toNat [] [] (zI0 _) (by have h2:8^n.toNat<=8^8:=Nat.pow_le_pow_right (by omega) (by omega);simp only[List.length_nil,zI0];omega);by_cases hn:0<=n/\n<=6
 .have h9:=h8 hn.1 hn.2
  rw[show((n.toNat:Nat):Int)=n by omega]at h9;have h10:s8 n=fx n.toNat n.toNat [[]]:=by rw[s8,zB0 hn];rfl
  rw[h10];simp only[lI,oI,lE,zE8,zE1]at h9;refine fO xv [2] Tryz.func291 ?_;have cE1:=@aA;have cM1:=@h9;exact dE ai trivial aj
 .have h10:s8 n=[]:=by rw[s8,zA8 hn]
  rw[h10];refine fO xv [2] Tryz.func291 ?_;have cE1:=@aA;refine dE zF trivial ?_;all_goals try(apply nn;repeat' first|exact jb|apply aa|(apply nq;intro zb hc)|(apply np;intro zb)|intro j')<;>try apply nu
  all_goals exact absurd hc hn
def sL:List Nat->Nat
 |[]=>0
 |n::ns=>n+sL ns
theorem vL{n:Int}:∀{p seen:List Int},jo n seen p=true↔(∀v∈p,1<=v/\v<=n)/\p.Nodup/\∀v∈p,v∉seen
 |[],seen=>by simp[jo]
 |v::p,seen=>by
  rw[jo,zB9,vL];simp only[zB9,zC2,Bool.not_eq_true',List.nodup_cons,zB3,zB7];constructor
  .rintro⟨⟨⟨h1,h2⟩,h3⟩,h4,h5,h6⟩
   have h3':v∉seen:=λh=>by rw[<-List.contains_iff_mem]at h;rw[h]at h3;cases h3
   refine⟨λx hx=> ?_,⟨λhv=>h6 v hv (.inr rfl),h5⟩,λx hx=> ?_⟩
   .rcases zD7.1 hx with rfl|hx
    .exact⟨h1,h2⟩
    .exact h4 x hx
   .rcases zD7.1 hx with rfl|hx
    .exact h3'
    .exact λhs=>h6 x hx (.inl hs)
  .rintro⟨h1,⟨h2,h3⟩,h4⟩
   have h5:=h1 v (by simp);refine⟨⟨⟨h5.1,h5.2⟩, ?_⟩,λx hx=>h1 x (by simp[hx]),h3,λx hx=> ?_⟩
   .rw[<-zA9,List.contains_iff_mem];exact h4 v (by simp)
   .rintro(hs|rfl)
    .exact h4 x (by simp[hx]) hs
    .exact h2 hx
theorem permB_iff:aF p=true↔(∀v∈p,1<=v/\v<=p.length)/\p.Nodup:=by
 rw[aF,vL];simp
theorem ye(h:v∈jg p n):1<=v/\v<=n/\v∉p:=by
 simp only[jg,List.mem_filter,zD0,zD5,Bool.not_eq_true']at h;obtain⟨⟨i,hi,rfl⟩,h2⟩:=h;refine⟨by omega,by omega,λhm=> ?_⟩;rw[<-List.contains_iff_mem,h2]at hm;cases hm
theorem MJ{n:Nat}:∀{k:Nat} {L:List (List Int)},(∀l∈L,(∀v∈l,1<=v/\v<=(n:Int))/\l.Nodup)->∀l∈fx n k L,(∀v∈l,1<=v/\v<=(n:Int))/\l.Nodup
 |0,L,h,l,hl=>h l hl
 |k+1,L,h,l,hl=>by
  rw[fx]at hl;refine MJ (λq hq=> ?_) l hl;simp only[List.mem_flatMap,fD,zD0]at hq;obtain⟨p,hp,v,hv,rfl⟩:=hq;obtain⟨h1,h2⟩:=h p hp;obtain⟨g1,g2,g3⟩:=ye hv;refine⟨λx hx=> ?_, ?_⟩
  .rcases zB3.1 hx with hx|hx
   .exact h1 x hx
   .simp at hx;subst hx;exact⟨g1,g2⟩
  .rw[List.nodup_append]
   refine⟨h2,by simp,λa ha b hb e=> ?_⟩;simp at hb;subst hb;subst e;exact g3 ha
theorem vJ(h:l∈dz n):aF l=true:=by
 have h1:=ke l h;have h2:=MJ (n:=n) (L:=[[]]) (k:=n) (by simp) l h;rw[permB_iff,h1];exact h2
theorem zQ(hn:n<=8)(h:l∈dz n):ac l=true:=by
 rw[ac,vJ h,ke l h,zB6 hn];rfl
theorem r9{α:Type}(p:α->Bool):∀(l:List α),l.length=(l.filter p).length+(l.filter λx=> !p x).length
 |[]=>rfl
 |x::l=>by
  have:=r9 p l;rw[List.filter_cons,List.filter_cons];cases p x<;>simp<;>omega
theorem rX:∀{n:Nat} {l:List Int} {a:Int},l.Nodup->(∀x∈l,a<x/\x<=a+n)->l.length<=n
 |0,l,a,_,hb=>by
  cases l with
  |nil=>simp
  |cons x l=>have:=hb x (by simp);omega
 |n+1,l,a,hn,hb=>by
  have h1:(l.filter λx=>decide (x≠a+(n+1:Nat))).length<=n:=rX (a:=a) (List.Nodup.sublist List.filter_sublist hn) λx hx=>by
   simp only[List.mem_filter,zC2]at hx;have:=hb x hx.1;refine⟨this.1, ?_⟩;have h2:=hx.2;push_cast at h2 this |-
   omega
  have h2:l.length<=(l.filter λx=>decide (x≠a+(n+1:Nat))).length+1:=by
   have h3:=r9 (λx=>decide (x≠a+(n+1:Nat))) l;have h4:(l.filter λx=> !decide (x≠a+(n+1:Nat))).length<=1:=by
    have h5:(l.filter λx=> !decide (x≠a+(n+1:Nat))).Nodup:=List.Nodup.sublist List.filter_sublist hn;have h6:∀x∈l.filter (λx=> !decide (x≠a+(n+1:Nat))),x=a+(n+1:Nat):=λx hx=>by
     simp only[List.mem_filter]at hx;simpa using hx.2
    revert h5 h6;generalize l.filter (λx=> !decide (x≠a+(n+1:Nat)))=q;intro h5 h6
    match q,h5,h6 with
    |[],_,_=>simp
    |[x],_,_=>simp
    |x::y::r,h5,h6=>
     have e1:=h6 x (by simp);have e2:=h6 y (by simp);simp only[List.nodup_cons,zD7,not_or]at h5;exact absurd (e1.trans e2.symm) h5.1.1
   omega
  omega
theorem BC(h:aF p=true)(h1:1<=v)(h2:v<=p.length):v∈p:=by
 obtain⟨q1,q2⟩:=permB_iff.1 h;by_cases hm:v∈p
 .exact hm
 .exfalso
  have:=rX (n:=p.length) (a:=0) (l:=v::p) (List.nodup_cons.2 ⟨hm,q2⟩) λx hx=>by
   rcases zD7.1 hx with rfl|hx
   .omega
   .have:=q1 x hx;omega
  simp at this;omega
theorem HV(h:aF p=true)(h1:1<=v)(h2:v<=p.length):∃i,i<p.length/\p.getD i 0=v:=by
 obtain⟨i,hi,e⟩:=zE7 (BC h h1 h2);exact⟨i,hi,by rw[zA0,zA1 hi];exact e⟩
theorem mz(h:aF p=true)(hi:i<p.length)(hj:j<p.length)(e:p.getD i 0=p.getD j 0):i=j:=by
 obtain⟨q1,q2⟩:=permB_iff.1 h;rw[zA0,zA1 hi,zA0,zA1 hj]at e;exact(List.getElem_inj q2).1 e
end Go.Gl
