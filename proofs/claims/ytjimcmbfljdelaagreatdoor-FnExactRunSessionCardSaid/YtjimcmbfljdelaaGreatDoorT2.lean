/-
  What the functions compute, and what the law asks of it: texts joined. Conditions: those that each lemma names.
-/
import Derived.Test.YtjimcmbfljdelaaGreatDoorT1
import Derived.Test.YtjimcmbfljdelaaGreatDoorGlC
set_option linter.unusedSimpArgs false
set_option linter.unusedVariables false
set_option maxRecDepth 20000
set_option linter.unusedSectionVars false
set_option maxHeartbeats 16000000
variable{s:List UInt8}{J d i k:Nat}{f:Go.FuncId}{e0 m0 m1:Bool}{a b x:Int}{L c l p q:List Int}
namespace Go.Gl
open Go Go.Proofs
variable [Amb][NoQ]
def Ju(s:List UInt8):List Int:=s.map λc=>(c.toNat:Int)-48
def lq(s:List UInt8):Bool:=decide (s=[45])||(!decide (s=[])&&ac (Ju s))
def cq(s:List UInt8):List Int:=if s=[45]then[]else if lq s=true then Ju s else[]
theorem Dh(h:k<s.length):Ju (s.take (k+1))=Ju (s.take k)++[((s.getD k 0).toNat:Int)-48]:=by
 rw[aq (d:=0) h,Ju,zE2];rfl
theorem uT:(Ju s).length=s.length:=by simp[Ju]
theorem aP(s:List UInt8)(hl:s.length<=1048576):Fun Tryz.prog 35 [.str s] [oI (cq s),.bool (lq s)]:=by
 refine fO au [2,3] Tryz.func35 ?_;have cE1:=@ah;refine dE ai trivial (pC ?_ ?_ ?_)<;>(intro zb hc;repeat (have zc:=zb.1;replace zb:=zb.2))
 .subst hc;rfl
 .subst hc;rfl
 .have hn:=hc
  refine ao (λ(k:Nat) S1=>(S1.e 0=.p (.str s)/\eI S1 5 k)/\OwnL (S1.e 4) S1.h S1.n (PV.int .i64) ((Ju (s.take k)).length) (Ju (s.take k))/\k<=s.length) (λk=>s.length-k) 0 ?_ (dC trivial aj);rintro k S1 ⟨fF1,B7,A1⟩;obtain⟨C4,B2,C8⟩:=B7.ou;have fL1:=(aa fF1 B2);have b1:=uT (s:=s.take k);rw[zD3]at b1;have b2:=uT (s:=s);have b3:(s.getD k 0).toNat<256:=(s.getD k 0).toNat_lt;have b4:=Dh (s:=s) (k:=k);by_cases hk:k<s.length
  .have u5:(Tryz.prog.underlying 5).isSome=true:=by kernel_rfl
   refine dE zF (aa fL1 @u5) (yP ?_ ?_ ?_ ?_ ?_ ?_ ?_ ?_ ?_ ?_ ?_ ?_ ?_ ?_)<;>(intro zb hc;repeat (have zc:=zb.1;replace zb:=zb.2));all_goals try (rw[fU];omega)
   all_goals try exact eQ
   refine ak (k+1) (dC fL1 aj) (dC fL1 (bu ?_ ?_))<;>intro zb;all_goals first|(rw[b4 hk];done)|(rw[b4 hk];simp;done)
  .rw[zA2 (by omega)]at*
   refine dE ai fL1 (zk6 ?_ ?_ ?_ ?_ ?_ ?_)<;>(intro zb hc;repeat (have zc:=zb.1;replace zb:=zb.2));all_goals(simp_all [cq,lq];done)
theorem bf(s:List UInt8)(hl:s.length<=1048576):Fun Tryz.prog 48 [.str s] [oI (cq s),.bool (lq s)]:=by
 refine fO au [2,3] Tryz.func48 ?_;have cE1:=@ae;refine dE ai trivial (pC ?_ ?_ ?_)<;>(intro zb hc;repeat (have zc:=zb.1;replace zb:=zb.2))
 .subst hc;rfl
 .subst hc;rfl
 .have hn:=hc
  refine ao (λ(k:Nat) S1=>(S1.e 0=.p (.str s)/\eI S1 11 s.length/\eI S1 12 k)/\OwnL (S1.e 4) S1.h S1.n (PV.int .i64) ((Ju (s.take k)).length) (Ju (s.take k))/\k<=s.length) (λk=>s.length-k) 0 ?_ (dC trivial aj);rintro k S1 ⟨fF1,B7,A1⟩;obtain⟨C4,B2,C8⟩:=B7.ou;have fL1:=(aa fF1 B2);have b1:=uT (s:=s.take k);rw[zD3]at b1;have b2:=uT (s:=s);have b3:(s.getD k 0).toNat<256:=(s.getD k 0).toNat_lt;have b4:=Dh (s:=s) (k:=k);by_cases hk:k<s.length
  .have u5:(Tryz.prog.underlying 5).isSome=true:=by kernel_rfl
   refine dE zF (aa fL1 @u5) (yP ?_ ?_ ?_ ?_ ?_ ?_ ?_ ?_ ?_ ?_ ?_ ?_ ?_ ?_)<;>(intro zb hc;repeat (have zc:=zb.1;replace zb:=zb.2));all_goals try (rw[fU];omega)
   all_goals try exact eQ
   refine ak (k+1) (dC fL1 aj) (dC fL1 (bu ?_ ?_))<;>intro zb;all_goals first|(rw[b4 hk];done)|(rw[b4 hk];simp;done)
  .rw[zA2 (by omega)]at*
   refine dE ai fL1 (zk6 ?_ ?_ ?_ ?_ ?_ ?_)<;>(intro zb hc;repeat (have zc:=zb.1;replace zb:=zb.2));all_goals(simp_all [cq,lq];done)
def tJ(c:UInt8):List UInt8->List UInt8->List (List UInt8)
 |[],cur=>[cur]
 |x::s,cur=>if x=c then cur::tJ c s []else tJ c s (cur++[x])
def ar(c:UInt8)(s:List UInt8):List (List UInt8):=tJ c s []
theorem lA{c:UInt8}:∀{s cur:List UInt8},(tJ c s cur).length<=s.length+1
 |[],_=>by simp[tJ]
 |x::s,cur=>by
  rw[tJ];split
  .have:=lA (c:=c) (s:=s) (cur:=[]);simp;omega
  .have:=lA (c:=c) (s:=s) (cur:=cur++[x]);simp;omega
theorem DP{f:Nat}(h:k<s.length)(hf:f<=k):(s.take (k+1)).drop f=(s.take k).drop f++[s.getD k 0]:=by
 rw[aq (d:=0) h,List.drop_append_of_le_length (by simp;omega)]
theorem aB(s:List UInt8)(c:UInt8)(hl:s.length<=1048576):Fun Tryz.prog 9 [.str s,.int .u8 ((c.toNat:Int))] [.sl .own (List.map PV.str (ar c s))]:=by
 refine fO au [4] Tryz.func9 ?_;refine dE ai trivial (aD λzb=> ?_);refine ku (λ(k:Nat) (f:Nat) (out:List (List UInt8)) S1=>(S1.e 0=.p (.str s)/\S1.e 1=.p (.int .u8 ((c.toNat:Int)))/\eI S1 6 f/\eI S1 7 k)/\OwnL (S1.e 5) S1.h S1.n PV.str ((out).length) out/\k<=s.length+1/\f<=k/\out.length<=k/\(k<=s.length->out++tJ c (s.drop k) ((s.take k).drop f)=ar c s)/\(k=s.length+1->out=ar c s)) (λk _ _=>s.length+1-k) 0 0 [] ?_ (dI ai trivial (aI λzb hc=> ?_));rintro k f out S1 ⟨fF1,A7,A1,A0,A3,B5,C7⟩;obtain⟨B4,A5,B8⟩:=A7.ou;have fL1:=(aa fF1 A5);have d1:=λh=>Ti (s:=s) (k:=k) h;have d2:f<=k->k<s.length->(s.take (k+1)).drop f=(s.take k).drop f++[s.getD k 0]:=λa b=>DP b a;refine dE ai fL1 (AN ?_ ?_ ?_ ?_)<;>intro zb hc
 .have e:s.getD k 0=c:=UInt8.toNat_inj.1 (by omega)
  refine gG (k+1) (k+1) (out++[(s.take k).drop f]) (dC fL1 aj) (dC fL1 (aD λzb=> ?_))
  .intro _
   have:=B5 (by omega);rw[d1 (by omega),tJ,zB0 e]at this;rw[<-this,show(s.take (k+1)).drop (k+1)=[]from zA6 (by simp;omega)]
 .have e:¬s.getD k 0=c:=λe=>hc (by rw[e])
  refine gG (k+1) f out (dC fL1 aj) (dC fL1 (aD λzb=> ?_))
  .intro _
   have:=B5 (by omega);rw[d1 (by omega),tJ,zA8 e]at this;rw[d2 (by omega) (by omega)];exact this
 .refine gG (k+1) (k+1) (out++[(s.take k).drop f]) (dC fL1 aj) (dC fL1 (aD λzb=> ?_))
  .intro _
   have:=B5 (by omega);rw[zA6 (by omega),tJ]at this;exact this
 .exact C7 (by omega)
 .rfl
def Am{α:Type}(p:α->Bool):List α->Nat->Int
 |[],_=> -1
 |x::l,i=>if p x then i else Am p l (i+1)
theorem CE{α:Type}{p:α->Bool}:∀{l:List α} {i:Nat},decide (0<=Am p l i)=l.any p
 |[],_=>rfl
 |x::l,i=>by
  rw[Am,List.any_cons];split
  .rename_i h;rw[h,Bool.true_or];exact zB6 (by omega)
  .rename_i h;rw[CE,Bool.eq_false_iff.2 h,Bool.false_or]
theorem cX(l:List (List Int))(g:FuncId)(caps:List PV)(p:List Int->Bool)(hl:l.length<=1099511627776)(hp:∀x∈l,Fun Tryz.prog g (lI e0 x::caps.map PV.cell) [.bool (p x)]):Fun Tryz.prog 357 [lE m0 e0 l,.fn g [] caps] [.int .i64 (Am p l 0)]:=by
 refine fO au [4] Tryz.func357 ?_;refine dE zF trivial (aD λzb=> ?_);refine ao (λ(k:Nat) S1=>(S1.e 0=.p (lE m0 e0 l)/\S1.e 1=.p (.fn g [] caps)/\eI S1 7 l.length/\eI S1 8 k)/\k<=l.length/\Am p l 0=Am p (l.drop k) k) (λk=>l.length-k) 0 ?_ (dI ai trivial aj);rintro k S1 ⟨fL1,A1,A0⟩;have cE1:=@hp;refine dE ai fL1 (AN ?_ ?_ ?_ ?_)<;>intro zb hc
 .exact am hc
 .rw[A0,CY (by omega),Am,zB0 hc]
 .refine ak (k+1) (dC fL1 aj) (dC fL1 (aD λzb=> ?_))
  rw[A0,CY (by omega),Am,zA8 (by rw[hc];decide)]
 .rw[A0,zA6 (by omega),Am]
theorem an(l:List (List Int))(g:FuncId)(caps:List PV)(p:List Int->Bool)(hl:l.length<=1099511627776)(hp:∀x∈l,Fun Tryz.prog g (lI e0 x::caps.map PV.cell) [.bool (p x)]):Fun Tryz.prog 309 [lE m0 e0 l,.fn g [] caps] [.bool (l.any p)]:=by
 refine fO au [4] Tryz.func309 ?_;have cE1:=@cX;have cE1:=(λm0=>cX (m0:=m0) l g caps p hl hp);have cE2:=@cX;refine dE zF trivial (aD λzb=> ?_);rw[CE]
def tC(b:Int)(p q c:List Int)(i:Int)(k:Nat):Bool:=(List.range k).all λl=>decide (q.getD l 0<q.getD c.length 0)==decide (p.getD (c.getD l 0-b).toNat 0<p.getD (i-b).toNat 0)
def mI(b:Int)(p q c:List Int)(i:Int):Bool:=tC b p q c i c.length
theorem mH{i:Int}:tC b p q c i (k+1)=(tC b p q c i k&&(decide (q.getD k 0<q.getD c.length 0)==decide (p.getD (c.getD k 0-b).toNat 0<p.getD (i-b).toNat 0))):=by
 grind [tC]
def aT(b:Int)(c:List Int):Int:=if c.length=0 then b else c.getD (c.length-1) 0+1
def eO(b:Int)(p q:List Int):Nat->List Int->List (List Int)
 |0,c=>[c]
 |d+1,c=>(List.range ((p.length:Int)+b-aT b c).toNat).flatMap λj:Nat=>if mI b p q c (aT b c+j)=true then eO b p q d (c++[aT b c+j])else[]
def mA(b:Int)(p q:List Int)(d:Nat)(c:List Int)(J:Nat):List (List Int):=
 (List.range J).flatMap λj:Nat=>if mI b p q c (aT b c+j)=true then eO b p q d (c++[aT b c+j])else[]
theorem Mc:eO b p q (d+1) c=mA b p q d c ((p.length:Int)+b-aT b c).toNat:=rfl
theorem fw:mA b p q d c (J+1)=mA b p q d c J++if mI b p q c (aT b c+J)=true then eO b p q d (c++[aT b c+J])else[]:=by
 simp[mA,zF7]
theorem pr{i:Int}:aT b (c++[i])=i+1:=by
 grind [aT]
theorem Rh{b:Int}{p q:List Int}(hb:0<=b):∀{d:Nat} {c:List Int},b<=aT b c->(eO b p q d c).length<=p.length^d
 |0,c,_=>by simp[eO]
 |d+1,c,hc=>by
  have key:∀J,(mA b p q d c J).length<=J*p.length^d:=by
   intro J
   induction J with
   |zero=>simp[mA]
   |succ J ih=>
    rw[fw,zA3,Nat.succ_mul];split
    .have:=Rh (q:=q) (p:=p) hb (d:=d) (c:=c++[aT b c+J]) (by rw[pr];omega)
     omega
    .simp;omega
  rw[Mc,zG7,Nat.mul_comm];exact zE0 (key _) (zD9 _ (by omega))
theorem zV{b:Int}{p q:List Int}:∀{d:Nat} {c:List Int},1<=d->(p.length:Int)+b<aT b c+d->eO b p q d c=[]
 |d+1,c,_,h=>by
  rw[eO,List.flatMap_eq_nil_iff];intro j hj;rw[zD5]at hj;split
  .exact zV (by omega) (by rw[pr];omega)
  .rfl
def ft(p q:List Int):Bool:= !(eO 0 p q q.length []).isEmpty
theorem Fa{i:Int}:mI 1 p q (c.map (·+1)) (i+1)=mI 0 p q c i:=by
 simp only[mI,tC,zB2];rw[Bool.eq_iff_iff,zC8,zC8];refine forall_congr' λl=>imp_congr_right λhl=> ?_;rw[zD5]at hl;have e1:(c.map (·+1)).getD l 0-1=c.getD l 0-0:=by
  rw[zA0,zA5,zA0,zA1 hl];simp
 rw[e1,show i+1-1=i-0 by omega]
theorem EW:aT 1 (c.map (·+1))=aT 0 c+1:=by
 grind [aT]
theorem ZW{p q:List Int}:∀{d:Nat} {c:List Int},eO 1 p q d (c.map (·+1))=(eO 0 p q d c).map (List.map (·+1))
 |0,c=>rfl
 |d+1,c=>by
  rw[eO,eO,EW,List.map_flatMap];rw[show((p.length:Int)+1-(aT 0 c+1))=p.length+0-aT 0 c by omega];congr 1;funext j;rw[show aT 0 c+1+(j:Int)=(aT 0 c+j)+1 by omega,Fa];split
  .rw[show List.map (·+1) c++[aT 0 c+(j:Int)+1]=List.map (·+1) (c++[aT 0 c+(j:Int)])by simp,ZW]
  .rfl
theorem IQ{i:Int}{n:Nat}(hk:k<=n)(h:tC b p q c i k=false):tC b p q c i n=false:=by
 induction hk with
 |refl=>exact h
 |step _ ih=>rw[mH,ih];rfl
theorem pV{m2:Bool}(p q c:List Int)(i:Int)(hq:q.length<=8)(hp:p.length<=8)(hc0:c.length<q.length)(hx:∀x∈c,1<=x/\x<=p.length)(hi:1<=i/\i<=p.length):Fun Tryz.prog 275 [lI m0 p,lI m1 q,lI m2 ((c++[i]))] [.bool (mI 1 p q c i)]:=by
 refine fO au [6] Tryz.func275 ?_;have e1:(c++[i]).getD c.length 0=i:=by simp
 refine dE ai trivial (aD λzb=> ?_);refine ao (λ(k:Nat) S1=>(S1.e 0=.p (lI m0 p)/\S1.e 1=.p (lI m1 q)/\S1.e 2=.p (lI m2 ((c++[i])))/\eI S1 7 c.length/\eI S1 8 k)/\k<=c.length/\tC 1 p q c i k=true) (λk=>c.length-k) 0 ?_ (dC trivial aj);rintro k S1 ⟨fL1,A1,A0⟩;by_cases hk:k<c.length
 .have e2:(c++[i]).getD k 0=c.getD k 0:=by simp[zA0,zD8 hk]
  have e3:=hx _ (am (d:=0) hk);refine dE ai (aa fL1 (aa @e1 @e2)) (f9 ?_ ?_)<;>intro zb hc
  .exact(IQ (k:=k+1) (by omega) (by rw[mH,A0,zF4];simpa using hc)).symm
  .refine ak (k+1) (dC fL1 aj) (dC fL1 (aD λzb=> ?_))
   rw[mH,A0,zF4,beq_iff_eq];simpa using hc
 .refine dE ai (aa fL1 @e1) (aI λzb hc=> ?_)
  obtain rfl:k=c.length:=by omega
  exact A0.symm
def zk:FuncId->List Bool:=λf=>if f=167 then[false,false,false,true]else if f=8589934759 then[false,false,true]else[]
theorem Qs:zk f=if f=167 then[false,false,false,true]else if f=8589934759 then[false,false,true]else[]:=_root_.id rfl
theorem JT:ga zk=false/\gu zk=false/\gs zk=false/\gr zk=false/\gB zk=false:=⟨rfl,rfl,rfl,rfl,rfl⟩
attribute [go_sem] Qs JT
theorem pW(p q:List Int)(hp:p.length<=8)(hq:q.length<=8):∀(d:Nat) (h:List Int) (out:List (List Int)),h.length+d=q.length->(∀x∈h,1<=x/\x<=p.length)->out.length+8^d<=1099511627776->
  CallT Tryz.prog true 167 [.pv (lI m0 p),.pv (lI m1 q),.pv (lI false h),.mu false (List.map (cK false) out)] [none,none,none,none] [.sl .own (List.map (cK false) (out++eO 1 p q d h))]:=by
 intro d
 induction d with
 |zero=>
  intro h out hd hx ho;refine CallT.of (sg:=zk) (ts:=[8]) mo Tryz.func167 rfl rfl rfl rfl (by kernel_rfl) (by simp only[go_sem]) rfl rfl ?_;have cE1:=@pV;exact dE dN trivial aj;all_goals(rw[T7];rfl)
 |succ d ih=>
  intro h out hd hx ho;have f0:1<=aT 1 h/\aT 1 h<=p.length+1:=by
   unfold aT;split
   .omega
   .have:=hx _ (am (d:=0) (show h.length-1<h.length by omega));omega
  refine CallT.of (sg:=zk) (ts:=[8]) mo Tryz.func167 rfl rfl rfl rfl (by kernel_rfl) (by simp only[go_sem]) rfl rfl ?_;have cE1:=@pV;have lenJ:∀J:Nat,(J:Int)<=p.length+1-aT 1 h->(mA 1 p q d h J).length<=J*8^d:=by
   intro J
   induction J with
   |zero=>intro _;simp[mA]
   |succ J ihJ=>
    intro hJ;have h1:=ihJ (by omega);have h2:(if mI 1 p q h (aT 1 h+J)=true then eO 1 p q d (h++[aT 1 h+J])else[]).length<=8^d:=by
     split
     .exact zE0 (Rh (by decide) (by rw[pr];omega)) (Nat.pow_le_pow_left hp d)
     .exact Nat.zero_le _
    rw[fw,zA3,Nat.succ_mul];exact Nat.add_le_add h1 h2
  by_cases hn:h.length=0
  .have f1:aT 1 h=1:=zB0 hn
   refine dE dN @hn (aI λzb hc=> ?_);refine ao (λ(J:Nat) S1=>(S1.e 0=.p (lI m0 p)/\S1.e 1=.p (lI m1 q)/\S1.e 2=.p (lI false h)/\eI S1 10 ((aT 1 h+J)))/\OwnM (S1.e 3) S1.h S1.n (cK false) ((out++mA 1 p q d h J).length) (out++mA 1 p q d h J)/\(J:Int)<=p.length+1-aT 1 h) (λJ=>p.length+1-J) 0 ?_ (dC trivial (bu (λzb=> ?_) λzb=> ?_));rintro J S1 ⟨fF1,A4,A1⟩;obtain⟨A9,V0,A2,B6⟩:=A4.ou;have fL1:=(aa fF1 A2);have b1:=lenJ J (by omega);by_cases hJ:aT 1 h+J<=p.length
   .have cM1:=@ih
    refine dE dN (aa fL1 @T7) (AN ?_ ?_ ?_ ?_)<;>intro zb hc
    .intro x hx'
     rcases zB3.1 hx' with hx'|hx'
     .exact hx x hx'
     .simp at hx';subst hx';omega
    .have h8:J+1<=8:=by omega
     have h9:=zD9 (8^d) h8;have h10:8^(d+1)=8*8^d:=by rw[zG7,Nat.mul_comm]
     rw[Nat.succ_mul]at h9;rw[zA3];omega
    .refine ak (J+1) (dC fL1 aj) (dC fL1 (bu ?_ ?_))<;>intro zb
     all_goals(rw[fw,zB0 hc];try simp only[zA3,zA7,zE9])
    .refine ak (J+1) (dC fL1 aj) (dC fL1 (bu ?_ ?_))<;>intro zb
     all_goals(rw[fw,zA8 (by rw[hc];decide),zC0])
   .have cM1:=@ih
    refine dE dN fL1 (aI λzb hc=> ?_);rw[Mc,show((p.length:Int)+1-aT 1 h).toNat=J by omega]
   .simp[mA]
   .simp[mA]
  .skip
   have f1:aT 1 h=h.getD (h.length-1) 0+1:=zA8 hn;have f2:((h.length:Int)-1).toNat=h.length-1:=by omega
   have g1:=hx _ (am (d:=0) (show h.length-1<h.length by omega));have cM1:=trivial;refine dE dN @f2 (aI λzb hc=> ?_);refine ao (λ(J:Nat) S2=>(S2.e 0=.p (lI m0 p)/\S2.e 1=.p (lI m1 q)/\S2.e 2=.p (lI false h)/\eI S2 10 ((aT 1 h+J)))/\OwnM (S2.e 3) S2.h S2.n (cK false) ((out++mA 1 p q d h J).length) (out++mA 1 p q d h J)/\(J:Int)<=p.length+1-aT 1 h) (λJ=>p.length+1-J) 0 ?_ (dC trivial (bu (λzb=> ?_) λzb=> ?_));rintro J S2 ⟨fF2,C9,A6⟩;obtain⟨F3,mm2_3,C6,F4⟩:=C9.ou;have fL2:=(aa fF2 C6);have b1:=lenJ J (by omega);by_cases hJ:aT 1 h+J<=p.length
   .have cM1:=@ih
    refine dE dN (aa fL2 @T7) (AN ?_ ?_ ?_ ?_)<;>intro zb hc
    .intro x hx'
     rcases zB3.1 hx' with hx'|hx'
     .exact hx x hx'
     .simp at hx';subst hx';omega
    .have h8:J+1<=8:=by omega
     have h9:=zD9 (8^d) h8;have h10:8^(d+1)=8*8^d:=by rw[zG7,Nat.mul_comm]
     rw[Nat.succ_mul]at h9;rw[zA3];omega
    .refine ak (J+1) (dC fL2 aj) (dC fL2 (bu ?_ ?_))<;>intro zb
     all_goals(rw[fw,zB0 hc];try simp only[zA3,zA7,zE9])
    .refine ak (J+1) (dC fL2 aj) (dC fL2 (bu ?_ ?_))<;>intro zb
     all_goals(rw[fw,zA8 (by rw[hc];decide),zC0])
   .have cM1:=@ih
    refine dE dN fL2 (aI λzb hc=> ?_);rw[Mc,show((p.length:Int)+1-aT 1 h).toNat=J by omega]
   .simp[mA]
   .simp[mA]
theorem Ri:(eO 1 p q d (c.map (·+1))).length=(eO 0 p q d c).length:=by rw[ZW,zB2]
theorem Sr:decide (0<((eO 1 p q q.length []).length:Int))=ft p q:=by
 have:=Ri (p:=p) (q:=q) (d:=q.length) (c:=[]);simp only[lI,oI,lE,zE8]at this;rw[this,ft];cases eO 0 p q q.length []with
 |nil=>rfl
 |cons x l=>simp
theorem bW(p q:List Int)(hp:p.length<=8)(hq:q.length<=8):Fun Tryz.prog 87 [lI m0 p,lI m1 q] [.bool (ft p q)]:=by
 refine fO zk [4] Tryz.func87 ?_;have h9:=pW (m0:=m0) (m1:=m1) p q hp hq q.length [] [] (zI0 _) (by simp) (by have h2:8^q.length<=8^8:=Nat.pow_le_pow_right (by omega) (by omega);simp only[List.length_nil,zI0];omega);simp only[lI,oI,lE,zE8,zE1]at h9;have cM1:=@h9;refine dE ai trivial (aD λzb=> ?_);exact Sr
theorem Gx(h1:mA b p q d c J=[])(h2:∀j:Nat,J<=j->(j:Int)<p.length+b-aT b c->eO b p q d (c++[aT b c+j])=[]):eO b p q (d+1) c=[]:=by
 grind [eO,List.flatMap_eq_nil_iff,mA]
theorem Gu(hj:(J:Int)<p.length+b-aT b c)(h1:mI b p q c (aT b c+J)=true)(h2:eO b p q d (c++[aT b c+J])≠[]):eO b p q (d+1) c≠[]:=by
 grind [eO,List.flatMap_eq_nil_iff]
theorem wh(p q:List Int)(hp:p.length<=8)(hq:q.length<=8):∀(d:Nat) {m2:Bool} (c:List Int),c.length+d=q.length->(∀x∈c,0<=x/\x<p.length)->
  Fun Tryz.prog 114 [lI m0 p,lI m1 q,lI m2 c] [.bool (!(eO 0 p q d c).isEmpty)]:=by
 intro d
 induction d with
 |zero=>
  intro m2 c hd hx;refine fO au [6] Tryz.func114 ?_;have cE1:=@aW;refine dE ai trivial (aI λzb hc=> ?_);rfl
 |succ d ih=>
  intro m2 c hd hx;have f0:0<=aT 0 c/\aT 0 c<=p.length:=by
   unfold aT;split
   .omega
   .have:=hx _ (am (d:=0) (show c.length-1<c.length by omega));omega
  by_cases hn:c.length=0
  .have f1:aT 0 c=0:=zB0 hn
   refine fO au [6] Tryz.func114 ?_;have cE1:=@aW;refine dE ai @hn (aI λzb hc=> ?_);refine ao (λ(J:Nat) S1=>(S1.e 0=.p (lI m0 p)/\S1.e 1=.p (lI m1 q)/\S1.e 2=.p (lI m2 c)/\eI S1 8 c.length/\eI S1 9 ((aT 0 c+J)))/\(J:Int)<=p.length-aT 0 c/\mA 0 p q d c J=[]) (λJ=>p.length-J) 0 ?_ (dI ai trivial aj);rintro J S1 ⟨fL1,A1,A0⟩;refine dE ai fL1 (f9 ?_ ?_)<;>intro zb hc
   .refine ao (λ(k:Nat) S2=>(S2.e 0=.p (lI m0 p)/\S2.e 1=.p (lI m1 q)/\S2.e 2=.p (lI m2 c)/\eI S2 8 c.length/\eI S2 9 ((aT 0 c+J))/\S2.e 10=.p (.bool (tC 0 p q c (aT 0 c+J) k))/\S2.e 42=.p (lI m2 c)/\eI S2 43 c.length/\eI S2 44 k)/\k<=c.length/\(J:Int)<=p.length-aT 0 c-(d+1)/\S1.n<=S2.n) (λk=>c.length-k) 0 ?_ (dC fL1 aj)
    rintro k S2 ⟨fL2,A6,B3,B1⟩;by_cases hk:k<c.length
    .omega
    .have g4:k=c.length:=by omega
     have ih1:=λ(m:Bool)=>ih (m2:=m) (c++[aT 0 c+J]) (by simp;omega) (by
      intro x hx';rcases zB3.1 hx' with hx'|hx'
      .exact hx x hx'
      .simp at hx';subst hx';omega)
     have cE1:=@ih1;have cE2:=@aW;refine dE ai (aa fL2 @T7) (pC ?_ ?_ ?_)<;>intro zb hc
     .subst g4
      have o1:=Gu (b:=0) (p:=p) (q:=q) (d:=d) (c:=c) (J:=J) (by omega) zb.1 (λe=>by rw[e]at hc;cases hc);cases ho:eO 0 p q (d+1) c with
      |nil=>exact absurd ho o1
      |cons _ _=>rfl
     .refine ak (J+1) (dC fL2 aj) (dC fL2 (aD λzb=> ?_))
      have o2:eO 0 p q d (c++[aT 0 c+J])=[]:=by simpa using hc
      rw[fw,A0,o2];split<;>rfl
     .refine ak (J+1) (dC fL2 aj) (dC fL2 (aD λzb=> ?_))
      subst g4;rw[fw,A0,zA8 (by rw[mI,hc];decide)];rfl
   .have o3:eO 0 p q (d+1) c=[]:=Gx A0 λj hj hj2=>by
     by_cases h0:d=0
     .omega
     .exact zV (by omega) (by rw[pr];omega)
    rw[o3];rfl
  .skip
   have f1:aT 0 c=c.getD (c.length-1) 0+1:=zA8 hn;have f2:((c.length:Int)-1).toNat=c.length-1:=by omega
   have g1:=hx _ (am (d:=0) (show c.length-1<c.length by omega));refine fO au [6] Tryz.func114 ?_;have cE1:=@aW;refine dE ai @f2 (aI λzb hc=> ?_);refine ao (λ(J:Nat) S3=>(S3.e 0=.p (lI m0 p)/\S3.e 1=.p (lI m1 q)/\S3.e 2=.p (lI m2 c)/\eI S3 8 c.length/\eI S3 9 ((aT 0 c+J)))/\(J:Int)<=p.length-aT 0 c/\mA 0 p q d c J=[]) (λJ=>p.length-J) 0 ?_ (dI ai trivial aj);rintro J S3 ⟨fL3,G7,F8⟩;refine dE ai fL3 (f9 ?_ ?_)<;>intro zb hc
   .refine ao (λ(k:Nat) S4=>(S4.e 0=.p (lI m0 p)/\S4.e 1=.p (lI m1 q)/\S4.e 2=.p (lI m2 c)/\eI S4 8 c.length/\eI S4 9 ((aT 0 c+J))/\S4.e 10=.p (.bool (tC 0 p q c (aT 0 c+J) k))/\S4.e 42=.p (lI m2 c)/\eI S4 43 c.length/\eI S4 44 k)/\k<=c.length/\(J:Int)<=p.length-aT 0 c-(d+1)/\S3.n<=S4.n) (λk=>c.length-k) 0 ?_ (dC fL3 aj)
    rintro k S4 ⟨fL4,I9,K4,E9⟩;by_cases hk:k<c.length
    .have g2:=hx _ (am (d:=0) hk)
     have g3:(decide (p.getD (c.getD k 0).toNat 0<p.getD (aT 0 c+J).toNat 0)==decide (q.getD k 0<q.getD c.length 0))=(decide (q.getD k 0<q.getD c.length 0)==decide (p.getD (c.getD k 0-0).toNat 0<p.getD (aT 0 c+J-0).toNat 0)):=by
      rw[Int.sub_zero,Int.sub_zero,Bool.eq_iff_iff,beq_iff_eq,beq_iff_eq];exact eq_comm
     refine dE ai fL4 (f9 ?_ ?_)<;>intro zb hc
     .refine ak (k+1) (dC fL4 aj) (dC fL4 (aD λzb=> ?_))
      rw[mH,hc,zF4];exact g3
     .refine ak (k+1) (dC fL4 aj) (dC fL4 (aD λzb=> ?_))
      rw[mH,hc];rfl
    .have g4:k=c.length:=by omega
     have ih1:=λ(m:Bool)=>ih (m2:=m) (c++[aT 0 c+J]) (by simp;omega) (by
      intro x hx';rcases zB3.1 hx' with hx'|hx'
      .exact hx x hx'
      .simp at hx';subst hx';omega)
     have cE1:=@ih1;have cE2:=@aW;refine dE ai (aa fL4 @T7) (pC ?_ ?_ ?_)<;>intro zb hc
     .subst g4
      have o1:=Gu (b:=0) (p:=p) (q:=q) (d:=d) (c:=c) (J:=J) (by omega) zb.1 (λe=>by rw[e]at hc;cases hc);cases ho:eO 0 p q (d+1) c with
      |nil=>exact absurd ho o1
      |cons _ _=>rfl
     .refine ak (J+1) (dC fL4 aj) (dC fL4 (aD λzb=> ?_))
      have o2:eO 0 p q d (c++[aT 0 c+J])=[]:=by simpa using hc
      rw[fw,F8,o2];split<;>rfl
     .refine ak (J+1) (dC fL4 aj) (dC fL4 (aD λzb=> ?_))
      subst g4;rw[fw,F8,zA8 (by rw[mI,hc];decide)];rfl
   .have o3:eO 0 p q (d+1) c=[]:=Gx F8 λj hj hj2=>by
     by_cases h0:d=0
     .omega
     .exact zV (by omega) (by rw[pr];omega)
    rw[o3];rfl
end Go.Gl
namespace Go.Gl
open Go Go.Proofs
variable [Amb]
def rc(a b:Int):Int:=if a<b then -1 else if b<a then 1 else 0
def pS:List Int->List Int->Int
 |[],[]=>0
 |[],_::_=> -1
 |_::_,[]=>1
 |a::x,b::y=>if rc a b≠0 then rc a b else pS x y
def Tq(p q:List Int):Int:=if rc p.length q.length≠0 then rc p.length q.length else pS p q
theorem cmpI_0:rc a b=0↔a=b:=by
 unfold rc;split
 .omega
 .split<;>omega
def QZ:List Int->Int
 |[]=>0
 |x::l=>if x≠0 then x else QZ l
theorem Tr(h:a<b): -1=rc a b:=by rw[rc,zB0 h]
theorem Ts(h:b<a):1=rc a b:=by rw[rc,zA8 (by omega),zB0 h]
theorem uy(x:Int):Fun Tryz.prog 297 [.int .i64 x] [.bool false]:=by
 refine fO au [2] Tryz.func297 ?_;exact dE ai trivial aj
theorem iY(a b:Int):Fun Tryz.prog 217 [.int .i64 a,.int .i64 b] [.int .i64 (rc a b)]:=by
 refine fO au [4] Tryz.func217 ?_;have cE1:=@uy;refine dE ai trivial (pC ?_ ?_ ?_)<;>intro zb hc
 .exact Tr hc
 .exact Ts hc
 .rw[rc,zA8 (by omega),zA8 (by omega)]
theorem gF(a b:List Int)(ha:a.length<=1099511627776)(hb:b.length<=1099511627776):Fun Tryz.prog 218 [lI m0 a,lI m1 b] [.int .i64 (pS a b)]:=by
 refine fO au [4] Tryz.func218 ?_;have cE1:=@iY;refine dE ai trivial (aD λzb=> ?_);refine ao (λ(k:Nat) S1=>(S1.e 1=.p (lI m1 b)/\S1.e 0=.p (lI m0 a)/\S1.e 9=.p (lI m0 a)/\eI S1 10 a.length/\eI S1 11 k)/\k<=a.length/\k<=b.length/\pS a b=pS (a.drop k) (b.drop k)) (λk=>a.length-k) 0 ?_ (dI ai trivial aj);rintro k S1 ⟨fL1,A1,A0,A3⟩;refine dE ai fL1 (Vp ?_ ?_ ?_ ?_ ?_)<;>intro zb hc
 .rw[A3,aN (by omega),zA6 (l:=b) (by omega),pS]
 .rw[A3,aN (by omega),aN (s:=b) (by omega),pS,zB0 hc]
 .refine ak (k+1) (dC fL1 aj) (dC fL1 (aD λzb=> ?_))
  rw[A3,aN (by omega),aN (s:=b) (by omega),pS,zA8 (λh=>h hc)]
 .rw[A3,zA6 (l:=a) (by omega),aN (s:=b) (by omega),pS]
 .rw[A3,zA6 (l:=a) (by omega),zA6 (l:=b) (by omega),pS]
theorem sx(l:List Int)(hl:l.length<=1099511627776):Fun Tryz.prog 216 [lI m0 l] [.int .i64 (QZ l)]:=by
 refine fO au [2] Tryz.func216 ?_;refine dE ai trivial (aD λzb=> ?_);refine ao (λ(k:Nat) S1=>(eI S1 3 0/\S1.e 6=.p (lI m0 l)/\eI S1 7 l.length/\eI S1 8 k)/\k<=l.length/\QZ l=QZ (l.drop k)) (λk=>l.length-k) 0 ?_ (dI ai trivial aj);rintro k S1 ⟨fL1,A1,A0⟩;refine dE ai fL1 (pC ?_ ?_ ?_)<;>intro zb hc
 .rw[A0,aN (by omega),QZ,zB0 hc]
 .refine ak (k+1) (dC fL1 aj) (dC fL1 (aD λzb=> ?_))
  rw[A0,aN (by omega),QZ,zA8 (λh=>h hc)]
 .rw[A0,zA6 (by omega),QZ]
theorem On(a b:Int):Fun Tryz.prog 216 [.sl (.lent m0) [.int .i64 a,.int .i64 b]] [.int .i64 (if a≠0 then a else b)]:=by
 have h:=sx (m0:=m0) [a,b] (by simp);have e:QZ [a,b]=if a≠0 then a else b:=by
  simp only[QZ];split
  .rfl
  .split
   .rfl
   .omega
 rw[e]at h;exact h
theorem df(p q:List Int)(hp:p.length<=1048576)(hq:q.length<=1048576):Fun Tryz.prog 113 [lI m0 p,lI m1 q] [.int .i64 (Tq p q)]:=by
 refine fO au [4] Tryz.func113 ?_;have cE1:=@iY;have cE2:=@gF;have cE3:=@sx;have cE1:=@On;have cE2:=@iY;have cE3:=@gF;refine dE ai trivial (aD λzb=> ?_);rfl
end Go.Gl
namespace Go.Gl
open Go Go.Proofs
variable [Amb][NoQ]
theorem bE(a b:List Int)(ha:a.length<=1099511627776)(hb:b.length<=1099511627776):Fun Tryz.prog 282 [lI m0 a,lI m1 b] [.bool (decide (a=b))]:=by
 refine fO au [4] Tryz.func282 ?_;refine dE zF trivial (f9 ?_ ?_)<;>intro zb hc
 .rw[zB8];intro e;subst e;exact hc rfl
 refine ao (λ(k:Nat) S1=>(S1.e 0=.p (lI m0 a)/\S1.e 1=.p (lI m1 b)/\eI S1 5 k)/\k<=a.length/\a.take k=b.take k) (λk=>a.length-k) 0 ?_ (dI ai trivial aj);rintro k S1 ⟨fL1,A1,A0⟩;refine dE ai fL1 (pC ?_ ?_ ?_)<;>intro zb hc
 .rw[zB8];intro e;subst e;exact hc rfl
 .refine ak (k+1) (dC fL1 aj) (dC fL1 (aD λzb=> ?_))
  rw[pT (by omega) (by omega)];exact⟨A0,hc⟩
 .rw[zB6]
  rw[zA2 (by omega),zA2 (by omega)]at A0;exact A0
theorem dh(a b:List Int)(ha:a.length<=1099511627776)(hb:b.length<=1099511627776):Fun Tryz.prog 316 [lI m0 a,lI m1 b] [.bool (decide (a=b))]:=by
 refine fO au [4] Tryz.func316 ?_;refine dE zF trivial (f9 ?_ ?_)<;>intro zb hc
 .rw[zB8];intro e;subst e;exact hc rfl
 refine ao (λ(k:Nat) S1=>(S1.e 0=.p (lI m0 a)/\S1.e 1=.p (lI m1 b)/\eI S1 12 a.length/\eI S1 13 k)/\k<=a.length/\a.take k=b.take k) (λk=>a.length-k) 0 ?_ (dI ai trivial aj);rintro k S1 ⟨fL1,A1,A0⟩;refine dE ai fL1 (pC ?_ ?_ ?_)<;>intro zb hc
 .rw[zB8];intro e;subst e;exact hc rfl
 .refine ak (k+1) (dC fL1 aj) (dC fL1 (aD λzb=> ?_))
  rw[pT (by omega) (by omega)];exact⟨A0,hc⟩
 .rw[zB6]
  rw[zA2 (by omega),zA2 (by omega)]at A0;exact A0
def xf(l:List Int)(x:Int)(k:Nat):Int:=((l.take k).filter λy=>decide (y<x)).length+1
def kM(l:List Int):List Int:=l.map λx=>xf l x l.length
theorem vC(h:k<l.length):xf l x (k+1)=xf l x k+bU (decide (l.getD k 0<x)):=by
 grind [xf,aq,bU]
theorem rkI_b:1<=xf l x k/\xf l x k<=l.length+1:=by
 grind [xf]
theorem gb(l:List Int)(hl:l.length<=1048576):Fun Tryz.prog 274 [lI m0 l] [oI (kM l)]:=by
 refine fO au [2] Tryz.func274 ?_;have cE1:=@bw;have cD1:=d7 (d8 13 [10]) [(0,10)];refine dE ai trivial (aD λzb=> ?_);refine ao (λ(k:Nat) S1=>(S1.e 0=.p (lI m0 l)/\eI S1 4 k)/\OwnL (S1.e 3) S1.h S1.n (PV.int .i64) (((l.take k).map (λx=>xf l x l.length)).length) ((l.take k).map (λx=>xf l x l.length))/\k<=l.length) (λk=>l.length-k) 0 ?_ (dI ai trivial aj);rintro k S1 ⟨fF1,A4,A1⟩;obtain⟨A9,A2,B6⟩:=A4.ou;have fL1:=(aa fF1 A2);refine dE ai fL1 (f9 ?_ ?_)<;>intro zb hc
 .refine ao (λ(j:Nat) S2=>(S2.e 0=.p (lI m0 l)/\eI S2 4 k/\eI S2 5 (xf l (l.getD k 0) j)/\eI S2 6 j)/\OwnL (S2.e 3) S2.h S2.n (PV.int .i64) (((l.take k).map (λx=>xf l x l.length)).length) ((l.take k).map (λx=>xf l x l.length))/\j<=l.length/\k<l.length/\S1.n<=S2.n) (λj=>l.length-j) 0 ?_ (dI ai fL1 aj)
  rintro j S2 ⟨fF2,C9,A6,B3,B1⟩;obtain⟨F3,C6,F4⟩:=C9.ou;have fL2:=(aa fF2 C6);have b1:=rkI_b (l:=l) (x:=l.getD k 0) (k:=j);have b2:=ik (decide (l.getD j 0<l.getD k 0));refine dE ai fL2 (f9 ?_ ?_)<;>intro zb hc
  .refine ak (j+1) (dC fL2 aj) (dC fL2 (aD λzb=> ?_))
   rw[vC (by omega)]
  .refine ak (k+1) (dC fL2 aj) (dC fL2 (aD λzb=> ?_))
   all_goals(obtain rfl:j=l.length:=by omega)
   rw[aq (d:=0) (by omega),zE2];rfl
 .rw[zA2 (by omega)];rfl
theorem kX(l:List Int)(hl:l.length<=1048576):Fun Tryz.prog 334 [lI m0 l] [oI (kM l)]:=by
 refine fO au [2] Tryz.func334 ?_;refine dE ai trivial (aD λzb=> ?_);refine ao (λ(k:Nat) S1=>(S1.e 0=.p (lI m0 l)/\S1.e 10=.p (lI m0 l)/\eI S1 11 l.length/\eI S1 12 k)/\OwnL (S1.e 3) S1.h S1.n (PV.int .i64) (((l.take k).map (λx=>xf l x l.length)).length) ((l.take k).map (λx=>xf l x l.length))/\k<=l.length) (λk=>l.length-k) 0 ?_ (dI ai trivial aj);rintro k S1 ⟨fF1,A4,A1⟩;obtain⟨A9,A2,B6⟩:=A4.ou;have fL1:=(aa fF1 A2);refine dE ai fL1 (f9 ?_ ?_)<;>intro zb hc
 .refine ao (λ(j:Nat) S2=>(S2.e 0=.p (lI m0 l)/\S2.e 10=.p (lI m0 l)/\eI S2 11 l.length/\eI S2 12 k/\eI S2 5 (l.getD k 0)/\S2.e 16=.p (lI m0 l)/\eI S2 17 l.length/\eI S2 18 j/\eI S2 6 (xf l (l.getD k 0) j))/\OwnL (S2.e 3) S2.h S2.n (PV.int .i64) (((l.take k).map (λx=>xf l x l.length)).length) ((l.take k).map (λx=>xf l x l.length))/\j<=l.length/\k<l.length/\S1.n<=S2.n) (λj=>l.length-j) 0 ?_ (dI ai fL1 aj)
  rintro j S2 ⟨fF2,C9,A6,B3,B1⟩;obtain⟨F3,C6,F4⟩:=C9.ou;have fL2:=(aa fF2 C6);have b1:=rkI_b (l:=l) (x:=l.getD k 0) (k:=j);refine dE ai fL2 (pC ?_ ?_ ?_)<;>intro zb hc
  .refine ak (j+1) (dC fL2 aj) (dC fL2 (aD λzb=> ?_))
   rw[vC (by omega),zB6 hc];rfl
  .refine ak (j+1) (dC fL2 aj) (dC fL2 (aD λzb=> ?_))
   rw[vC (by omega),zB8 (by omega)];simp[bU]
  .refine ak (k+1) (dC fL2 aj) (dC fL2 (aD λzb=> ?_))
   all_goals(obtain rfl:j=l.length:=by omega)
   rw[aq (d:=0) (by omega),zE2];rfl
 .rw[zA2 (by omega)];rfl
def dg(p:List Int):List Int:=p.map λv=>(p.length:Int)+1-v
theorem fM(p:List Int)(hl:p.length<=1048576)(hb:∀x∈p,0<=x/\x<=1048576):Fun Tryz.prog 119 [lI m0 p] [oI (dg p)]:=by
 refine fO au [2] Tryz.func119 ?_;refine dE ai trivial (aD λzb=> ?_);refine ao (λ(k:Nat) S1=>(S1.e 0=.p (lI m0 p)/\S1.e 7=.p (lI m0 p)/\eI S1 8 p.length/\eI S1 9 k)/\OwnL (S1.e 3) S1.h S1.n (PV.int .i64) (((p.take k).map (λv=>(p.length:Int)+1-v)).length) ((p.take k).map (λv=>(p.length:Int)+1-v))/\k<=p.length) (λk=>p.length-k) 0 ?_ (dI zF trivial aj);rintro k S1 ⟨fF1,A4,A1⟩;obtain⟨A9,A2,B6⟩:=A4.ou;have fL1:=(aa fF1 A2);have b1:k<p.length->0<=p.getD k 0/\p.getD k 0<=1048576:=λh=>hb _ (am h);refine dE zF fL1 (TX ?_ ?_ ?_ ?_ ?_ ?_ ?_ ?_)<;>intro zb hc;all_goals try have b2:=b1 (by omega)
 all_goals try exact eQ
 .refine ak (k+1) (dC fL1 aj) (dC fL1 (aD λzb=> ?_))
  rw[aq (d:=0) (by omega),zE2];rfl
 .rw[zA2 (by omega)];rfl
theorem d9(p:List Int)(hl:p.length<=1048576)(hb:∀x∈p,0<=x/\x<=1048576):Fun Tryz.prog 157 [lI m0 p] [oI (dg p)]:=by
 refine fO au [2] Tryz.func157 ?_;refine dE ai trivial (aD λzb=> ?_);refine ao (λ(k:Nat) S1=>(S1.e 0=.p (lI m0 p)/\eI S1 4 k)/\OwnL (S1.e 3) S1.h S1.n (PV.int .i64) (((p.take k).map (λv=>(p.length:Int)+1-v)).length) ((p.take k).map (λv=>(p.length:Int)+1-v))/\k<=p.length) (λk=>p.length-k) 0 ?_ (dI zF trivial aj);rintro k S1 ⟨fF1,A4,A1⟩;obtain⟨A9,A2,B6⟩:=A4.ou;have fL1:=(aa fF1 A2);have b1:k<p.length->0<=p.getD k 0/\p.getD k 0<=1048576:=λh=>hb _ (am h);refine dE zF fL1 (TX ?_ ?_ ?_ ?_ ?_ ?_ ?_ ?_)<;>intro zb hc;all_goals try have b2:=b1 (by omega)
 all_goals try exact eQ
 .refine ak (k+1) (dC fL1 aj) (dC fL1 (aD λzb=> ?_))
  rw[aq (d:=0) (by omega),zE2];rfl
 .rw[zA2 (by omega)];rfl
def qM(p:List Int):Nat->List Int
 |0=>List.replicate p.length 0
 |k+1=>(qM p k).set (p.getD k 0-1).toNat ((k:Int)+1)
theorem invL_len{p:List Int}:∀{k:Nat},(qM p k).length=p.length
 |0=>by simp[qM]
 |k+1=>by rw[qM,zI1,invL_len]
theorem GS{p:List Int}(hp:aF p=true):∀{k:Nat},k<=p.length->∀i,i<k->(qM p k).getD (p.getD i 0-1).toNat 0=(i:Int)+1
 |k+1,h,i,hi=>by
  have b1:=ju hp (i:=k) (by omega);have b2:=ju hp (i:=i) (by omega);rw[qM,zA0,List.getElem?_set,invL_len];by_cases e:i=k
  .grind
  .rw[zA8 λh1=>e (mz hp (by omega) (by omega) (by omega)),<-zA0]
   exact GS hp (by omega) i (by omega)
def jM(p:List Int):List Int:=qM p p.length
theorem bD(p:List Int)(h8:p.length<=8)(hp:aF p=true):Fun Tryz.prog 117 [lI m0 p] [oI (jM p)]:=by
 refine fO au [2] Tryz.func117 ?_;refine dE ai trivial (aD λzb=> ?_);refine ao (λ(k:Nat) S1=>(S1.e 9=.p (lI m0 p)/\eI S1 10 p.length/\eI S1 11 k)/\OwnL (S1.e 3) S1.h S1.n (PV.int .i64) ((qM p k).length) (qM p k)/\k<=p.length) (λk=>p.length-k) 0 ?_ (dI ai trivial (aD λzb=> ?_));rintro k S1 ⟨fF1,A4,A1⟩;obtain⟨A9,A2,B6⟩:=A4.ou;have fL1:=(aa fF1 A2);have b1:(qM p k).length=p.length:=invL_len;have b2:=λh=>ju hp (i:=k) h;refine dE ai fL1 (f9 ?_ ?_)<;>intro zb hc
 .refine ak (k+1) (dC fL1 aj) (dC fL1 (aD λzb=> ?_))
  all_goals first|(rw[invL_len,invL_len];done)|skip
 .obtain rfl:k=p.length:=by omega
  rfl
 .exact invL_len.symm
theorem j5:(jM p).length=p.length:=invL_len
theorem td{f:Int->Int}(h:l.Nodup)(hf:∀x∈l,∀y∈l,x≠y->f x≠f y):(l.map f).Nodup:=by
 grind [List.Pairwise.imp_of_mem]
theorem LB{y:Int}(hx:x∈l)(h:x<y):xf l x l.length<xf l y l.length:=by
 unfold xf;rw[zE6];have h1:=r9 (λz=>decide (z<x)) (l.filter λz=>decide (z<y));have h2:((l.filter λz=>decide (z<y)).filter λz=>decide (z<x))=l.filter λz=>decide (z<x):=by
  rw[List.filter_filter];grind
 have h3:x∈(l.filter λz=>decide (z<y)).filter λz=> !decide (z<x):=by
  grind
 grind
theorem eE:(kM l).length=l.length:=by simp[kM]
theorem x6(hn:l.Nodup):aF (kM l)=true:=by
 rw[permB_iff,eE];refine⟨λx hx=> ?_,td hn λx hx y hy h=> ?_⟩
 .obtain⟨y,hy,rfl⟩:=zD0.1 hx
  refine⟨rkI_b.1, ?_⟩;have h1:=r9 (λz=>decide (z<y)) l;have h2:y∈l.filter λz=> !decide (z<y):=by simp[hy]
  grind [xf]
 .rcases Int.lt_or_gt_of_ne h with h|h
  .have:=LB hx h;omega
  .have:=LB hy h;omega
theorem gM:(dg p).length=p.length:=by simp[dg]
theorem yG(h:aF p=true):aF (dg p)=true:=by
 rw[permB_iff,gM];obtain⟨a1,a2⟩:=permB_iff.1 h;refine⟨λx hx=> ?_,td a2 λx _ y _ h=>by omega⟩;obtain⟨y,hy,rfl⟩:=zD0.1 hx;have:=a1 y hy;omega
theorem bJ(p:List Int)(h8:p.length<=8)(hp:aF p=true):Fun Tryz.prog 155 [lI m0 p] [oI (jM p)]:=by
 refine fO au [2] Tryz.func155 ?_;refine dE ai trivial (aD λzb=> ?_);refine ao (λ(k:Nat) S1=>(S1.e 0=.p (lI m0 p)/\eI S1 4 k)/\OwnL (S1.e 3) S1.h S1.n (PV.int .i64) ((qM p k).length) (qM p k)/\k<=p.length) (λk=>p.length-k) 0 ?_ (dI ai trivial (aD λzb=> ?_));rintro k S1 ⟨fF1,A4,A1⟩;obtain⟨A9,A2,B6⟩:=A4.ou;have fL1:=(aa fF1 A2);have b1:(qM p k).length=p.length:=invL_len;have b2:=λh=>ju hp (i:=k) h;refine dE ai fL1 (f9 ?_ ?_)<;>intro zb hc
 .refine ak (k+1) (dC fL1 aj) (dC fL1 (aD λzb=> ?_))
  all_goals first|(rw[invL_len,invL_len];done)|skip
 .obtain rfl:k=p.length:=by omega
  rfl
 .exact invL_len.symm
def ul(L:List Int)(i:Nat):List Int:=(List.range L.length).map λq=>if q<i\/L.length<=q+i then L.getD (L.length-1-q) 0 else L.getD q 0
theorem revK_len:(ul L i).length=L.length:=by simp[ul]
theorem mn{q:Nat}:(ul L i)[q]? =if q<L.length then some (if q<i\/L.length<=q+i then L.getD (L.length-1-q) 0 else L.getD q 0)else none:=by
 unfold ul;rw[zA5];by_cases h:q<L.length
 .rw[zB0 h,List.getElem?_range h];rfl
 .rw[zA8 h,zG9 (by simp;omega)];rfl
theorem yn(h:i<L.length):L[i]? =some (L.getD i 0):=by
 rw[zA0,zA1 h];rfl
theorem revK_0:ul L 0=L:=by
 apply zI7;intro q;rw[mn];by_cases h:q<L.length
 .rw[zB0 h,zA8 (by omega),yn h]
 .rw[zA8 h,zG9 (by omega)]
theorem LC(h1:2*i<=L.length)(h2:L.length<=2*i+1):ul L i=L.reverse:=by
 apply zI7;intro q;rw[mn];by_cases h:q<L.length
 .rw[zB0 h,List.getElem?_reverse h,yn (by omega)]
  by_cases e:q<i\/L.length<=q+i
  .rw[zB0 e]
  .rw[zA8 e,show L.length-1-q=q by omega]
 .rw[zA8 h,zG9 (by simp;omega)]
theorem QE(h:2*i+1<L.length):(ul L i).getD i 0=L.getD i 0/\(ul L i).getD (L.length-1-i) 0=L.getD (L.length-1-i) 0:=by
 constructor
 .rw[zA0,mn,zB0 (by omega),zA8 (by omega)];rfl
 .rw[zA0,mn,zB0 (by omega),zA8 (by omega)];rfl
theorem HQ(h:2*i+1<L.length):((ul L i).set i (L.getD (L.length-1-i) 0)).set (L.length-1-i) (L.getD i 0)=ul L (i+1):=by
 apply zI7;intro q;rw[List.getElem?_set,List.getElem?_set,zI1,revK_len,mn,mn];by_cases e1:L.length-1-i=q
 .rw[zB0 e1,zB0 (by omega),zB0 (by omega),zB0 (by omega),<-e1,show L.length-1-(L.length-1-i)=i by omega]
 .rw[zA8 e1]
  by_cases e2:i=q
  .subst e2;rw[zB0 rfl,zB0 (by omega),zB0 (by omega),zB0 (by omega)]
  .rw[zA8 e2]
   by_cases hq:q<L.length
   .rw[zB0 hq,zB0 hq]
    by_cases e3:q<i\/L.length<=q+i
    .rw[zB0 e3,zB0 (by omega)]
    .rw[zA8 e3,zA8 (by omega)]
   .rw[zA8 hq,zA8 hq]
theorem d6(L:List Int)(hL:L.length<=1048576):CallT Tryz.prog false 221 [.mu false (List.map (PV.int .i64) L)] [some (List.map (PV.int .i64) L.reverse)] []:=by
 refine fX au [] Tryz.func221 ?_;have cD1:=d7 (d8 16 [13,15]) [(2,13),(3,13)];refine dE ai trivial (aD λzb=> ?_);refine ao (λ(i:Nat) S1=>(S1.e 0=.ref 0 0 (ul L i).length/\S1.h 0=.live true (List.map (PV.int .i64) (ul L i))/\eI S1 2 i/\eI S1 3 (((L.length:Int)-1-i)))/\0<S1.n/\2*i<=L.length) (λi=>L.length-i) 0 ?_ (dC trivial (bu (λzb=> ?_) λzb=> ?_));rintro i S1 ⟨fF1,J1,A1⟩;have n0:=dJ (x:=0) (n:=S1.n);have fL1:=(aa fF1 n0)
 .have e0:=revK_len (L:=L) (i:=i)
  by_cases hi:2*i+1<L.length
  .have e1:=QE hi
   have e2:=HQ hi;have e3:((L.length:Int)-1-i).toNat=L.length-1-i:=by omega
   refine dE ai (aa fL1 (aa @e0 (aa e1.1 (aa e1.2 (aa @e2 @e3))))) (aI λzb hc=> ?_);refine ak (i+1) (dC fL1 aj) (dC fL1 (aD λzb=> ?_));all_goals first|omega|(rw[e0,revK_len];done)
  .have e2:=LC A1 (by omega)
   exact dE ai (aa fL1 (aa @e0 @e2)) aj
 .exact revK_len.symm
 .exact revK_0.symm
def vx:FuncId->List Bool:=λf=>if f=221 then[true]else[]
theorem Ln:vx f=if f=221 then[true]else[]:=_root_.id rfl
theorem Hz:ga vx=false/\gu vx=false/\gs vx=false/\gr vx=false/\gB vx=false:=⟨rfl,rfl,rfl,rfl,rfl⟩
attribute [go_sem] Ln Hz
theorem eJ(p:List Int)(hl:p.length<=1048576):Fun Tryz.prog 118 [lI m0 p] [oI p.reverse]:=by
 refine fO vx [2] Tryz.func118 ?_;have cE1:=@aW;have cM1:=@d6;have e1:p.reverse.length=p.length:=zC4;have e2:List.take p.length p.reverse=p.reverse:=zA2 (by omega);exact dE ai (aa @e1 @e2) aj
theorem aK(p:List Int)(hl:p.length<=1048576):Fun Tryz.prog 156 [lI m0 p] [oI p.reverse]:=by
 refine fO au [2] Tryz.func156 ?_;refine dE ai trivial (aD λzb=> ?_);refine ao (λ(k:Nat) S1=>(S1.e 0=.p (lI m0 p)/\eI S1 4 (((k:Int)-1)))/\OwnL (S1.e 3) S1.h S1.n (PV.int .i64) (((p.drop k).reverse).length) ((p.drop k).reverse)/\k<=p.length) (λk=>k) p.length ?_ (dC trivial (bu (λzb=> ?_) λzb=> ?_));rintro k S1 ⟨fF1,A4,A1⟩;obtain⟨A9,A2,B6⟩:=A4.ou;have fL1:=(aa fF1 A2)
 .have e1:((k:Int)-1).toNat=k-1:=by omega
  have e2:(p.drop k).reverse.length=p.length-k:=by simp
  refine dE ai (aa fL1 (aa @e1 @e2)) (f9 ?_ ?_)<;>intro zb hc
  .refine ak (k-1) (dC fL1 aj) (dC fL1 (bu ?_ ?_))<;>intro zb
   .simp;omega
   .obtain⟨j,rfl⟩:∃j,k=j+1:=⟨k-1,by omega⟩
    rw[Nat.add_sub_cancel,aN (k:=j) (by omega),List.reverse_cons]
  .obtain rfl:k=0:=by omega
   rw[zI3,zA2 (by simp)]
 .simp
 .rw[List.drop_length];rfl
end Go.Gl
