/-
  What the functions compute, and what the law asks of it: texts joined. Conditions: those that each lemma names.
-/
import Derived.Test.YtjimcmbfljdelaaGreatDoorT1
set_option linter.unusedSimpArgs false
set_option linter.unusedVariables false
set_option maxRecDepth 20000
set_option linter.unusedSectionVars false
set_option maxHeartbeats 16000000
variable{i id id' j off off' r:Nat}{ys:List Go.Gl.PV}{cs cs' rd:List Nat}{e0 m' m0 tk:Bool}{v:Go.Gl.AV}{c n x:Int}{l p q:List Int}{L:List (List Int)}
namespace Go.Gl
open Go Go.Proofs
variable [Amb][NoQ]
section
variable {α:Type}{f:α->PV}{m:Bool}{cs:List Nat}{L:List (Option (List α))}{h:Nat->Blk}{k:Nat}{C:R->Prop}
def mM(f:α->PV)(m:Bool)(cs:List Nat)(L:List (Option (List α))):Blk:=.deep m (cs.map .row) (L.map (Option.map (List.map f)))
def Tk(f:α->PV)(m:Bool)(cs:List Nat)(L:List (Option (List α))):Blk:=.deep m (cs.map .row++[.v (.sl .own [])]) (L.map (Option.map (List.map f)))
theorem Zj{L:List (List α)}:dk f m L=mM f m (List.range L.length) (L.map some):=by
 simp_all [dk,mM,canon,List.map_map]
theorem tv:(L.map (Option.map (List.map f)))[r]? =(L[r]?).map (Option.map (List.map f)):=zA5 ..
def avQ(id r:Nat):Option (Option (List α))->AV
 |some (some l)=>.inn id r 0 l.length
 |_=>.p .any
theorem ZD{l:List α}:avQ id r (some (some l))=.inn id r 0 l.length:=_root_.id rfl
theorem ad0:DC.av id (L.map (Option.map (List.map f))) (.row r)=avQ id r (L[r]?):=by
 simp only[DC.av,tv];cases L[r]? with
 |none=>rfl
 |some o=>cases o with
  |none=>rfl
  |some l=>simp[avQ]
theorem aci:Jq (mM f m cs L) id off C=(off<cs.length/\C ⟨avQ id (cs.getD off 0) (L[cs.getD off 0]?),[],[id]⟩):=by
 simp only[Jq,mM,gt,zC9,Int.natCast_nonneg,true_and,KD,zA5];grind [ad0]
theorem UL(h:off=cs.length):Jq (Tk f m cs L) id off C=C ⟨.p (.sl .own []),[],[id]⟩:=by
 grind [Jq,Tk,gt,KD,DC.av]
def ldO(f:α->PV)(id off:Nat)(C:R->Prop):Option (Option (List α))->Prop
 |some (some l)=>gt (l.map f) off (KX id C)
 |_=>False
theorem XW{l:List α}:ldO f id off C (some (some l))=gt (l.map f) off (KX id C):=_root_.id rfl
theorem acg:ZZ (mM f m cs L) id r off C=ldO f id off C (L[r]?):=by
 simp only[ZZ,mM,tv];cases L[r]? with
 |none=>rfl
 |some o=>cases o<;>rfl
def Yl(f:α->PV)(id off len:Nat)(F:PV->List Nat->Prop):Option (Option (List α))->Prop
 |some (some l)=>off+len<=l.length/\F (.sl (.lent true) (((l.map f).drop off).take len)) [id]
 |_=>False
theorem Sm{len:Nat}{F:PV->List Nat->Prop}{l:List α}:Yl f id off len F (some (some l))=(off+len<=l.length/\F (.sl (.lent true) (((l.map f).drop off).take len)) [id]):=_root_.id rfl
theorem acw{len:Nat}{F:PV->List Nat->Prop}:Sn (mM f m cs L) id r off len F=Yl f id off len F (L[r]?):=by
 simp only[Sn,mM,tv];cases L[r]? with
 |none=>rfl
 |some o=>cases o with
  |none=>rfl
  |some l=>simp only[zE4,Yl,zB2];rfl
def apQ(f:α->PV)(m:Bool)(cs:List Nat)(L:List (Option (List α)))(id r len k:Nat)(C:R->Prop)(ys:List PV)(rd:List Nat):Option (Option (List α))->Prop
 |some (some l)=>len=l.length/\id∉rd/\len+ys.length<=1099511627776/\C ⟨.ref k 0 (len+ys.length),[(id,mM f m cs (L.set r none)),(k,.live m (l.map f++ys))],id::rd⟩
 |_=>False
theorem OP{len:Nat}{l:List α}:apQ f m cs L id r len k C ys rd (some (some l))=(len=l.length/\id∉rd/\len+ys.length<=1099511627776/\C ⟨.ref k 0 (len+ys.length),[(id,mM f m cs (L.set r none)),(k,.live m (l.map f++ys))],id::rd⟩):=_root_.id rfl
theorem ON{len:Nat}:apI (mM f m cs L) id r len k C ys rd=apQ f m cs L id r len k C ys rd (L[r]?):=by
 simp only[apI,mM,tv];have e:(L.map (Option.map (List.map f))).set r none=(L.set r none).map (Option.map (List.map f)):=by rw[List.map_set];rfl
 cases L[r]? with
 |none=>rfl
 |some o=>cases o with
  |none=>rfl
  |some l=>grind [apQ,mM]
theorem KN{l:List α}{len:Nat}:ub (mM f m cs L) (.live m' (l.map f)) id off id' off' len C=((m'=true->m=true)/\off'=0/\len=l.length/\off<cs.length/\id'≠id/\C ⟨.p .any,[(id',.dead),(id,mM f m (cs.set off L.length) (L++[some l]))],[id,id']⟩):=by
 grind [ub,mM,List.map_set]
theorem VR{l:List α}{len:Nat}(h:off=cs.length):ub (Tk f m cs L) (.live m' (l.map f)) id off id' off' len C=((m'=true->m=true)/\off'=0/\len=l.length/\id'≠id/\C ⟨.p .any,[(id',.dead),(id,mM f m (cs++[L.length]) (L++[some l]))],[id,id']⟩):=by
 subst h;have e:(cs.map DC.row++[DC.v (.sl .own [])]).set cs.length (.row L.length)=(cs++[L.length]).map .row:=by
  simp_all [List.set_append_right]
 simp only[ub,Tk,mM,zB2,zA3,zC5,e,zE2,zC3,zE8,zE4,Nat.lt_succ_self,true_and]
def ZV(b:Blk)(id r off:Nat)(v:PV)(C:R->Prop):Prop:=v.cell.cellOk=true/\(match b with
  | .deep m cs rs=>(match rs[r]? with
   |some (some c)=>off<c.length/\C ⟨.p .any,[(id,.deep m cs (rs.set r (some (c.set off v.cell))))],[id]⟩
   |_=>False)
  |_=>False)
theorem PS{v:PV}:DR (some (1,false)) h (.iptr id r off) (.p v) C=ZV (h id) id r off v C:=by
 grind [DR,HP,ZV]
def rwO(m:Bool)(cs:List Nat)(L:List (Option (List Int)))(id r off:Nat)(n:Int)(C:R->Prop):Option (Option (List Int))->Prop
 |some (some l)=>off<l.length/\C ⟨.p .any,[(id,mM (PV.int .i64) m cs (L.set r (some (l.set off n))))],[id]⟩
 |_=>False
theorem Wo{L:List (Option (List Int))}:rwO m cs L id r off n C (some (some l))=(off<l.length/\C ⟨.p .any,[(id,mM (PV.int .i64) m cs (L.set r (some (l.set off n))))],[id]⟩):=_root_.id rfl
theorem abj{L:List (Option (List Int))}:ZV (mM (PV.int .i64) m cs L) id r off (.int .i64 n) C=rwO m cs L id r off n C (L[r]?):=by
 simp only[ZV,mM,tv,PV.cell,PV.cellOk,true_and];cases L[r]? with
 |none=>rfl
 |some o=>cases o with
  |none=>rfl
  |some l=>
   grind [List.map_set,rwO,mM]
theorem abk{L:List (List Int)}:ZV (dk (PV.int .i64) m L) id r off (.int .i64 n) C=(r<L.length/\off<(L.getD r []).length/\C ⟨.p .any,[(id,dk (PV.int .i64) m (L.set r ((L.getD r []).set off n)))],[id]⟩):=by
 simp only[ZV,dk,PV.cell,PV.cellOk,true_and];grind [List.map_set]
theorem ym:(cs.map DC.row).all DC.noSelf=true:=by rw[zC8];intro x hx;obtain⟨_,_,rfl⟩:=zD0.1 hx;rfl
theorem ad7{len n:Nat}:Ps (mM f m cs L) (.deep false [.v (.sl .own [])] []) id len j n k C=(n=1/\id≠j/\len=cs.length/\len+n<=1099511627776/\
  C ⟨.ref k 0 (len+n),[(j,.dead),(id,.dead),(k,Tk f m cs L)],[id,j]⟩):=by
 simp only[Ps,mM,Tk,ym,zB2,zC5,zH7,List.all_nil,DC.noSelf,Bool.and_self,true_and,zC3,zE8,DC.up,zC0]
theorem ad8{len n:Nat}:Ps (mM f m cs L) (.deep false [.row 0] [some []]) id len j n k C=(n=1/\id≠j/\len=cs.length/\len+n<=1099511627776/\
  C ⟨.ref k 0 (len+n),[(j,.dead),(id,.dead),(k,mM f m (cs++[L.length]) (L++[some []]))],[id,j]⟩):=by
 simp only[Ps,mM,ym,zB2,zC5,zH7,List.all_nil,DC.noSelf,Bool.and_self,true_and,zC3,zE8,DC.up,Nat.add_zero,zE2,zE4,zE8]
theorem Nu{β:Type}{l:List β}{x d:β}(h:i<l.length):(l.set i x).getD i d=x:=by grind
theorem Nt{β:Type}{l:List β}{x d:β}(h:i≠j):(l.set i x).getD j d=l.getD j d:=by grind
theorem UY{β:Type}{l:List β}{x d:β}(h:j<l.length):(l++[x]).getD j d=l.getD j d:=by grind
theorem NB{β:Type}{l:List β}{x d:β}(h:j=l.length):(l++[x]).getD j d=x:=by
 grind
theorem Ny{β:Type}{l:List β}{x:β}(h:j=l.length):(l++[x])[j]? =some x:=by
 grind
structure Tb(cs:List Nat)(L:List (Option (List α)))(T:List (List α)):Prop where
 len:cs.length=T.length
 at_:∀i,i<T.length->L[cs.getD i 0]? =some (some (T.getD i []))
 nd:cs.Nodup
 lt:∀r∈cs,r<L.length
theorem Tb.nil:Tb (α:=α) [] [] []:=⟨rfl,λi hi=>absurd hi (by simp),List.nodup_nil,λr hr=>by cases hr⟩
theorem KC{T:List (List α)}:Tb (List.range T.length) (T.map some) T:=by
 refine⟨by simp,λi hi=> ?_,List.nodup_range,λr hr=>by simpa using hr⟩;grind
theorem UX(hn:cs.Nodup)(hi:i<cs.length)(hj:j<cs.length)(e:i≠j):cs.getD i 0≠cs.getD j 0:=by
 grind [List.getElem_inj]
theorem EU(hi:i<cs.length):cs.getD i 0∈cs:=by
 grind
theorem VO{T:List (List α)}{l:List α}(h:Tb cs L T)(hi:i<T.length):Tb cs (L.set (cs.getD i 0) (some l)) (T.set i l):=by
 have hl:=h.len;refine⟨by grind,λj hj=> ?_,h.nd,λr hr=>by rw[zI1];exact h.lt r hr⟩;rw[zI1]at hj;rw[List.getElem?_set];by_cases e:i=j
 .subst e
  rw[zB0 rfl,zB0 (h.lt _ (EU (by omega))),Nu hj]
 .rw[zA8 (UX h.nd (by omega) (by omega) e),h.at_ j hj,Nt e]
theorem rr{T:List (List α)}{l:List α}(h:Tb cs L T)(hi:i<T.length):Tb (cs.set i (L.set (cs.getD i 0) none).length) (L.set (cs.getD i 0) none++[some l]) (T.set i l):=by
 have hl:=h.len;refine⟨by grind,λj hj=> ?_, ?_,λr hr=> ?_⟩
 .rw[zI1]at hj
  by_cases e:i=j
  .grind
  .have h1:=h.lt _ (EU (cs:=cs) (i:=j) (by omega))
   rw[Nt e,zD8 (by grind),List.getElem?_set_ne (UX h.nd (by omega) (by omega) e),h.at_ j hj,Nt e]
 .rw[zI1]
  refine zH0.2 ?_;rw[List.pairwise_iff_getElem];intro a b ha hb hab;rw[zI1]at ha hb;rw[List.getElem_set,List.getElem_set];have g:∀q (hq:q<cs.length),cs[q]<L.length:=λq hq=>h.lt _ (List.getElem_mem hq);have:=g a ha;have:=g b hb;split<;>split
  .omega
  .omega
  .omega
  .exact λq=>by have:=(List.getElem_inj h.nd).1 q;omega
 .rcases List.mem_or_eq_of_mem_set hr with q|q
  .have:=h.lt r q;simp;omega
  .rw[q];simp
theorem y5{T:List (List α)}{l:List α}(h:Tb cs L T):Tb (cs++[L.length]) (L++[some l]) (T++[l]):=by
 have hl:=h.len;refine⟨by simp[hl],λj hj=> ?_, ?_,λr hr=> ?_⟩
 .by_cases e:j<T.length
  .have h1:=h.lt _ (EU (cs:=cs) (i:=j) (by omega))
   rw[UY (by omega),zD8 h1,h.at_ j e,UY e]
  grind
 .rw[List.nodup_append]
  refine⟨h.nd,by simp,λa ha b hb e=> ?_⟩;simp at hb;subst hb;subst e;exact absurd (h.lt _ ha) (Nat.lt_irrefl _)
 .rcases zB3.1 hr with q|q
  .have:=h.lt r q;simp;omega
  grind
theorem Hg{F:List (Nat×Nat×Pl)->Prop}{len:Nat}{T:List (List α)}{rows:List (List PV)}(h:Tb cs L T)(hm:m=true->tk=true)(hr:rows=T.map (List.map f))(hl:len=T.length)(hF:F [(k,id,.d 0 (cs.map some))]):Pn (mM f m cs L) tk k id 0 len rows F:=by
 subst hl;have hc:=h.len;simp only[Pn,mM,zI0,zI3,zB2];refine⟨by omega,hm,cs.map some, ?_, ?_,hF⟩
 .rw[zA2 (by simp;omega),hr]
  refine sW (λi hi=>⟨cs.getD i 0, ?_, ?_⟩) (by simp[hc])
  .rw[zA0,zA1 hi];rfl
  .rw[tv,h.at_ i (by omega),zA5,zA0,zA1 (by omega)];rfl
 .rw[List.filterMap_map]
  simpa[Function.comp_def]using h.nd
def GwnL(v:AV)(h:Nat->Blk)(n:Nat)(f:α->PV)(cs:List Nat)(L:List (Option (List α))):Prop:=∃id,v=.ref id 0 cs.length/\h id=mM f false cs L/\id<n
theorem GwnL.out{n:Nat}(ho:GwnL v h n f cs L):∃id,v=.ref id 0 cs.length/\h id=mM f false cs L/\id<n:=ho
def hbO(b:Blk)(f:α->PV)(cs:List Nat)(L:List (Option (List α))):Prop:=b=mM f false cs L
theorem GwnL.ou{n:Nat}(ho:GwnL v h n f cs L):∃i,(v=.ref i 0 cs.length/\h i=mM f false cs L/\((∀c,(i=n+c)=False)/\(∀c,(n+c=i)=False)/\(i=n)=False/\(n=i)=False))/\i<n:=ho.out.imp λ_ q=>⟨⟨q.1,q.2.1,dJ q.2.2⟩,q.2.2⟩
theorem Sv{n len':Nat}:GwnL (.ref id 0 len') h n f cs L=(len'=cs.length/\hbO (h id) f cs L/\id<n):=by
 unfold GwnL hbO;apply propext;constructor
 .rintro⟨i,e1,e2,e3⟩;cases e1;exact⟨rfl,e2,e3⟩
 .rintro⟨e1,e2,e3⟩;exact⟨id,by rw[e1],e2,e3⟩
theorem Yo{L':List (Option (List α))}:hbO (mM f false cs' L') f cs L=(mM f false cs' L'=mM f false cs L):=_root_.id rfl
theorem acB:hbO (.deep false [] []) f ([]:List Nat) ([]:List (Option (List α))):=_root_.id rfl
end
attribute [go_sem] ZD aci XW acg Sm acw OP ON KN PS Wo abj abk ad7 ad8 Sv Yo acB
end Go.Gl
namespace Go.Gl
open Go Go.Proofs
variable [Amb][NoQ]
variable [TabA]
def ji(L:List (List Int)):List (List UInt8):=L.map jE
def xk(L:List (List Int)):List UInt8:=if L=[]then[45]else Lib.join (ji L) [47]
theorem sd:∀{L:List (List Int)},(∀l∈L,∀x∈l, -9223372036854775808<=x/\x<=9223372036854775807)->(Lib.joinTail [47] (ji L)).length<=22*sL (L.map List.length)+2*L.length
 |[],_=>by simp[Lib.joinTail,ji]
 |l::L,h=>by
  have h1:=sd (L:=L) λl hl=>h l (by simp[hl]);have h2:=mB (h l (by simp));have e:(Lib.joinTail [47] (ji (l::L)))=[47]++jE l++Lib.joinTail [47] (ji L):=by simp[Lib.joinTail,ji]
  rw[e];simp only[zA3,zC3,sL,zC1,List.length_nil];omega
theorem vg(h:∀l∈L,∀x∈l, -9223372036854775808<=x/\x<=9223372036854775807):(Lib.join (ji L) [47]).length<=22*sL (L.map List.length)+2*L.length:=by
 cases L with
 |nil=>simp[ji,Lib.join_nil]
 |cons l L=>
  have h1:=sd (L:=L) λl hl=>h l (by simp[hl]);have h2:=mB (h l (by simp));have e:Lib.join (ji (l::L)) [47]=jE l++Lib.joinTail [47] (ji L):=by simp[ji,Lib.join_cons]
  rw[e,zA3,zC3,sL,zC1];omega
theorem rt(h:∀l∈L,∀x∈l, -9223372036854775808<=x/\x<=9223372036854775807):(xk L).length<=22*sL (L.map List.length)+2*L.length+1:=by
 unfold xk;split
 .simp
 .have:=vg h;omega
theorem xQ{k:Nat}:ji (L.take k)=(ji L).take k:=by simp[ji,List.map_take]
theorem Bb(h:(L.length:Int)=0):xk L=[45]:=by rw[xk,zB0 (zA4 (by omega))]
theorem xP(h:¬(L.length:Int)=0):xk L=Lib.join (ji L) [47]:=by rw[xk,zA8 (by rintro rfl;exact h rfl)]
theorem eW(L:List (List Int))(hL:L.length<=1048576)(hl:∀l∈L,l.length<=1048576)(hs:sL (L.map List.length)<=1048576)(hb:∀l∈L,∀x∈l, -9223372036854775808<=x/\x<=9223372036854775807):Fun Tryz.prog 189 [lE m0 e0 L] [.str (xk L)]:=by
 refine fO au [2] Tryz.func189 ?_;have cE1:=@cG;have cE2:=@bj;have b9:=vg hb;refine dE zF trivial (aD λzb=> ?_);refine ao (λ(k:Nat) S1=>(S1.e 0=.p (lE m0 e0 L)/\eI S1 4 k)/\OwnL (S1.e 3) S1.h S1.n PV.str ((ji (L.take k)).length) (ji (L.take k))/\k<=L.length) (λk=>L.length-k) 0 ?_ (dI zF trivial aj);rintro k S1 ⟨fF1,A4,A1⟩;obtain⟨A9,A2,B6⟩:=A4.ou;have fL1:=(aa fF1 A2);have b7:(ji (L.take k)).length=k:=by simp[ji];omega
 have b6:=iS (l:=ji L) (sep:=[47]) (k:=k);rw[<-xQ]at b6;have q:k<L.length->∀x∈L.getD k [], -9223372036854775808<=x/\x<=9223372036854775807:=λh=>hb _ (am h);have q2:k<L.length->(L.getD k []).length<=1048576:=λh=>hl _ (am h);refine dE zF fL1 (aaq ?_ ?_ ?_ ?_ ?_ ?_ ?_ ?_ ?_ ?_ ?_)<;>intro zb hc;all_goals try exact q hc
 all_goals try exact q2 hc
 all_goals try exact eQ
 .refine ak (k+1) (dC fL1 aj) (dC fL1 (bu ?_ ?_))<;>intro zb
  all_goals simp[ji,aq (d:=[]) (show k<L.length by omega)]
 .rw[Bb (by omega)]
 .rw[xP (by omega),zA2 (by omega)]
theorem fg(L:List (List Int))(hL:L.length<=1048576)(hl:∀l∈L,l.length<=1048576)(hs:sL (L.map List.length)<=1048576)(hb:∀l∈L,∀x∈l, -9223372036854775808<=x/\x<=9223372036854775807):Fun Tryz.prog 247 [lE m0 e0 L] [.str (xk L)]:=by
 refine fO au [2] Tryz.func247 ?_;have cE1:=@ba;have cE2:=@az;have b9:=vg hb;refine dE ai trivial (f9 ?_ ?_)<;>intro zb hc
 .rw[Bb hc]
 .rw[xP hc]
  have hn:=hc;refine ao (λ(k:Nat) S1=>(S1.e 10=.p (lE m0 e0 L)/\eI S1 11 L.length/\eI S1 12 k)/\OwnL (S1.e 3) S1.h S1.n PV.str ((ji (L.take k)).length) (ji (L.take k))/\k<=L.length) (λk=>L.length-k) 0 ?_ (dI zF trivial aj);rintro k S1 ⟨fF1,A4,A1⟩;obtain⟨A9,A2,B6⟩:=A4.ou;have fL1:=(aa fF1 A2);have b7:(ji (L.take k)).length=k:=by simp[ji];omega
  have b6:=iS (l:=ji L) (sep:=[47]) (k:=k);rw[<-xQ]at b6;have q:k<L.length->∀x∈L.getD k [], -9223372036854775808<=x/\x<=9223372036854775807:=λh=>hb _ (am h);have q2:k<L.length->(L.getD k []).length<=1048576:=λh=>hl _ (am h);refine dE zF fL1 (Hx ?_ ?_ ?_ ?_ ?_ ?_ ?_ ?_ ?_ ?_)<;>intro zb hc;all_goals try exact q hc
  all_goals try exact q2 hc
  all_goals try exact eQ
  .refine ak (k+1) (dC fL1 aj) (dC fL1 (bu ?_ ?_))<;>intro zb
   all_goals simp[ji,aq (d:=[]) (show k<L.length by omega)]
  .rw[zA2 (by omega)]
end Go.Gl
namespace Go.Gl
open Go Go.Proofs
variable [Amb][NoQ]
def Jx(n:Int):Nat->Int
 |0=>1
 |i+1=>(Jx n i*(n-i)).tdiv (i+1)
def Jw(n k:Int):Int:=if 0<=n/\n<=40/\0<=k/\k<=n then Jx n k.toNat else 0
theorem ady:∀n,n<41->∀i,i<41->0<=Jx (n:Nat) i/\Jx (n:Nat) i<=1000000000000:=by decide+kernel
theorem Dp(h0:0<=n)(h1:n<=40)(h:i<=40):0<=Jx n i/\Jx n i<=1000000000000:=by
 have:=ady n.toNat (by omega) i (by omega);grind
theorem adx(h0:0<=c/\c<=1000000000000)(h1:0<=n/\n<=40)(hi:(i:Int)<=n):0<=c*(n-i)/\c*(n-i)<=40000000000000:=by
 have a:=Int.mul_nonneg h0.1 (show 0<=n-(i:Int)by omega);have b:=Int.mul_le_mul h0.2 (show n-(i:Int)<=40 by omega) (by omega) (by omega);omega
theorem qg(n k:Int):Fun Tryz.prog 358 [.int .i64 n,.int .i64 k] [.int .i64 (Jw n k)]:=by
 by_cases h:0<=n/\n<=40/\0<=k/\k<=n
 .rw[show Jw n k=Jx n k.toNat from zB0 h]
  refine fO au [4] Tryz.func358 ?_;refine dE ai trivial (aI λzb hc=> ?_);refine ao (λ(i:Nat) S1=>(eI S1 0 n/\eI S1 1 k/\eI S1 5 (Jx n i)/\eI S1 22 k/\eI S1 23 i)/\(i:Int)<=k) (λi=>k.toNat-i) 0 ?_ (dC trivial aj);rintro i S1 ⟨fL1,A1⟩;have b1:=Dp h.1 h.2.1 (i:=i) (by omega);have b2:=adx b1 ⟨h.1,h.2.1⟩ (i:=i) (by omega);have b3:=Dp h.1 h.2.1 (i:=min (i+1) 40) (by omega);by_cases hi:(i:Int)<k
  .have e:min (i+1) 40=i+1:=by omega
   rw[e]at b3;rw[Jx]at b3;refine dE ai fL1 (aI λzb hc=> ?_);exact ak (i+1) (dC fL1 aj) (dC fL1 aj);all_goals rfl
  .obtain rfl:i=k.toNat:=by omega
   exact dE ai fL1 aj
 .rw[show Jw n k=0 from zA8 h]
  refine fO au [4] Tryz.func358 ?_;exact dE ai trivial aj
theorem pY(n k:Int):Fun Tryz.prog 379 [.int .i64 n,.int .i64 k] [.int .i64 (Jw n k)]:=by
 by_cases h:0<=n/\n<=40/\0<=k/\k<=n
 .rw[show Jw n k=Jx n k.toNat from zB0 h]
  refine fO au [4] Tryz.func379 ?_;have cE1:=@aA;refine dE ai trivial (aI λzb hc=> ?_);refine ao (λ(i:Nat) S1=>(eI S1 0 n/\eI S1 1 k/\eI S1 5 (Jx n i)/\eI S1 6 i)/\(i:Int)<=k) (λi=>k.toNat-i) 0 ?_ (dC trivial aj);rintro i S1 ⟨fL1,A1⟩;have b1:=Dp h.1 h.2.1 (i:=i) (by omega);have b2:=adx b1 ⟨h.1,h.2.1⟩ (i:=i) (by omega);have b3:=Dp h.1 h.2.1 (i:=min (i+1) 40) (by omega);by_cases hi:(i:Int)<k
  .have e:min (i+1) 40=i+1:=by omega
   rw[e]at b3;rw[Jx]at b3;refine dE ai fL1 (aI λzb hc=> ?_);exact ak (i+1) (dC fL1 aj) (dC fL1 aj);all_goals rfl
  .obtain rfl:i=k.toNat:=by omega
   exact dE ai fL1 aj
 .rw[show Jw n k=0 from zA8 h]
  refine fO au [4] Tryz.func379 ?_;have cE1:=@aA;exact dE ai trivial aj
def Fw(n:Int):Int:=if 0<=n/\n<=20 then(Jw (2*n) n).tdiv (n+1)else -1
theorem Vg{k:Int}:0<=Jw n k/\Jw n k<=1000000000000:=by
 unfold Jw;split
 .exact Dp (by omega) (by omega) (by omega)
 .omega
theorem aaX{d:Int}(h0:0<=c/\c<=1000000000000)(hd:0<d):0<=c.tdiv d/\c.tdiv d<=1000000000000:=by
 have a:=Int.tdiv_nonneg h0.1 (Int.le_of_lt hd);have b:=Int.tdiv_le_self (a:=c) d h0.1;omega
theorem cn(n:Int):Fun Tryz.prog 321 [.int .i64 n] [.int .i64 (Fw n)]:=by
 by_cases h:0<=n/\n<=20
 .rw[show Fw n=(Jw (2*n) n).tdiv (n+1)from zB0 h]
  have b1:=Vg (n:=2*n) (k:=n);have b2:=aaX b1 (show 0<n+1 by omega);refine fO au [2] Tryz.func321 ?_;have cE1:=@qg;exact dE ai trivial aj
 .rw[show Fw n= -1 from zA8 h]
  refine fO au [2] Tryz.func321 ?_;have cE1:=@qg;exact dE ai trivial aj
theorem cM(n:Int):Fun Tryz.prog 346 [.int .i64 n] [.int .i64 (Fw n)]:=by
 by_cases h:0<=n/\n<=20
 .rw[show Fw n=(Jw (2*n) n).tdiv (n+1)from zB0 h]
  have b1:=Vg (n:=2*n) (k:=n);have b2:=aaX b1 (show 0<n+1 by omega);refine fO au [2] Tryz.func346 ?_;have cE1:=@aA;have cE2:=@pY;exact dE ai trivial aj
 .rw[show Fw n= -1 from zA8 h]
  refine fO au [2] Tryz.func346 ?_;have cE1:=@aA;have cE2:=@pY;exact dE ai trivial aj
def ra:Nat->Int×Int
 |0=>(1,1)
 |k+1=>((ra k).2,(ra k).1+(ra k).2)
theorem UZ:∀k,k<42->(0<=(ra k).1/\(ra k).1<=1000000000)/\0<=(ra k).2/\(ra k).2<=1000000000:=by decide+kernel
def Fb(n:Int):Int:=if 0<=n/\n<=40 then(ra n.toNat).1 else -1
theorem bL(n:Int):Fun Tryz.prog 320 [.int .i64 n] [.int .i64 (Fb n)]:=by
 by_cases h:0<=n/\n<=40
 .rw[show Fb n=(ra n.toNat).1 from zB0 h]
  refine fO au [2] Tryz.func320 ?_;refine dE ai trivial (aI λzb hc=> ?_);refine ao (λ(i:Nat) S1=>(eI S1 3 ((ra i).1)/\eI S1 4 ((ra i).2)/\eI S1 11 n/\eI S1 12 i)/\(i:Int)<=n) (λi=>n.toNat-i) 0 ?_ (dC trivial aj);rintro i S1 ⟨fL1,A1⟩;have b1:=UZ i (by omega);by_cases hi:(i:Int)<n
  .refine dE ai fL1 (aI λzb hc=> ?_)
   exact ak (i+1) (dC fL1 aj) (dC fL1 aj);all_goals rfl
  .obtain rfl:i=n.toNat:=by omega
   exact dE ai fL1 aj
 .rw[show Fb n= -1 from zA8 h]
  refine fO au [2] Tryz.func320 ?_;exact dE ai trivial aj
theorem ct(n:Int):Fun Tryz.prog 345 [.int .i64 n] [.int .i64 (Fb n)]:=by
 by_cases h:0<=n/\n<=40
 .rw[show Fb n=(ra n.toNat).1 from zB0 h]
  refine fO au [2] Tryz.func345 ?_;have cE1:=@aA;refine dE ai trivial (aI λzb hc=> ?_);refine ao (λ(i:Nat) S1=>(eI S1 0 n/\eI S1 3 ((ra i).1)/\eI S1 4 ((ra i).2)/\eI S1 5 ((i+1)))/\(i:Int)+1<=max n 1) (λi=>n.toNat-i) 0 ?_ (dC trivial aj);rintro i S1 ⟨fL1,A1⟩;have b1:=UZ i (by omega);by_cases hi:(i:Int)+1<n
  .refine dE ai fL1 (aI λzb hc=> ?_)
   exact ak (i+1) (dC fL1 aj) (dC fL1 aj);all_goals rfl
  .refine dE ai fL1 (aI λzb hc=> ?_)
   by_cases h0:n=0
   .subst h0;obtain rfl:i=0:=by omega
    rfl
   .obtain e:n.toNat=i+1:=by omega
    rw[e,ra]
 .rw[show Fb n= -1 from zA8 h]
  refine fO au [2] Tryz.func345 ?_;have cE1:=@aA;exact dE ai trivial aj
def xl(s:List Int)(m:Nat):Nat->Int
 |0=>s.getD m 0
 |k+1=>xl s m k+s.getD k 0*s.getD (m-k) 0
def uc:Nat->List Int
 |0=>[1]
 |m+1=>uc m++[xl (uc m) m (m+1)]
theorem jY:∀{n},(uc n).length=n+1
 |0=>rfl
 |n+1=>by simp[uc,jY (n:=n)]
theorem PY:∀m,m<15->∀k,k<17->0<=xl (uc m) m k/\xl (uc m) m k<=1000000000000/\0<=(uc m).getD k 0*(uc m).getD (m-k) 0/\(uc m).getD k 0*(uc m).getD (m-k) 0<=1000000000000:=by decide+kernel
def HI(n:Int):Int:=if 0<=n/\n<=15 then(uc n.toNat).getD n.toNat 0 else -1
theorem nb(n:Int):Fun Tryz.prog 323 [.int .i64 n] [.int .i64 (HI n)]:=by
 by_cases h:0<=n/\n<=15
 .rw[show HI n=(uc n.toNat).getD n.toNat 0 from zB0 h]
  obtain⟨N,rfl⟩:=zG6 h.1;rw[zC9];refine fO au [2] Tryz.func323 ?_;refine dE ai trivial (aI λzb hc=> ?_);refine ao (λ(j:Nat) S1=>(eI S1 0 N/\eI S1 4 ((j+1)))/\OwnL (S1.e 3) S1.h S1.n (PV.int .i64) ((uc j).length) (uc j)/\j<=N) (λj=>N-j) 0 ?_ (dI ai trivial aj);rintro j S1 ⟨fF1,A4,A1⟩;obtain⟨A9,A2,B6⟩:=A4.ou;have fL1:=(aa fF1 A2);have e0:((j:Int)+1-1).toNat=j:=by omega
  refine dE ai (aa fL1 (aa @jY @e0)) (f9 ?_ ?_)<;>intro zb hc
  .refine ao (λ(k:Nat) S2=>(eI S2 0 N/\S2.e 3=.ref A9 0 (uc j).length/\S2.h A9=.live false (List.map (PV.int .i64) (uc j))/\eI S2 4 ((j+1))/\eI S2 5 ((xl (uc j) j k))/\eI S2 24 ((j+1))/\eI S2 25 k)/\k<=j+1/\j<N/\S1.n<=S2.n) (λk=>j+1-k) 0 ?_ (dC fL1 aj)
   rintro k S2 ⟨fF2,A6,B3,B1⟩;have G8:=dJ (x:=A9) (n:=S2.n);have fL2:=(aa fF2 G8);by_cases hk:k<j+1
   .have e1:((j:Int)+1-1-k).toNat=j-k:=by omega
    obtain⟨a1,a2,b1,b2⟩:=PY j (by omega) k (by omega);obtain⟨b3,b4,_,_⟩:=PY j (by omega) (k+1) (by omega);rw[xl]at b3 b4;refine dE ai (aa fL2 (aa @jY @e1)) (aI λzb hc=> ?_);exact ak (k+1) (dC fL2 aj) (dC fL2 aj);all_goals rw[xl]
   .obtain rfl:k=j+1:=by omega
    refine dE ai (aa fL2 @jY) (aI λzb hc=> ?_);refine ak (j+1) (dC fL2 aj) (dC fL2 (aD λzb=> ?_));all_goals(simp[uc,jY])
   all_goals rfl
  .skip
   obtain rfl:j=N:=by omega
   rfl
 .rw[show HI n= -1 from zA8 h]
  refine fO au [2] Tryz.func323 ?_;exact dE ai trivial aj
theorem cr(n:Int):Fun Tryz.prog 347 [.int .i64 n] [.int .i64 (HI n)]:=by
 by_cases h:0<=n/\n<=15
 .rw[show HI n=(uc n.toNat).getD n.toNat 0 from zB0 h]
  obtain⟨N,rfl⟩:=zG6 h.1;rw[zC9];refine fO au [2] Tryz.func347 ?_;have cE1:=@aA;refine dE ai trivial (aI λzb hc=> ?_);refine ao (λ(j:Nat) S1=>(eI S1 0 N/\eI S1 4 ((j+1)))/\OwnL (S1.e 3) S1.h S1.n (PV.int .i64) ((uc j).length) (uc j)/\j<=N) (λj=>N-j) 0 ?_ (dI ai trivial aj);rintro j S1 ⟨fF1,A4,A1⟩;obtain⟨A9,A2,B6⟩:=A4.ou;have fL1:=(aa fF1 A2);have e0:((j:Int)+1-1).toNat=j:=by omega
  refine dE ai (aa fL1 (aa @jY @e0)) (f9 ?_ ?_)<;>intro zb hc
  .refine ao (λ(k:Nat) S2=>(eI S2 0 N/\S2.e 3=.ref A9 0 (uc j).length/\S2.h A9=.live false (List.map (PV.int .i64) (uc j))/\eI S2 4 ((j+1))/\eI S2 5 ((xl (uc j) j k))/\eI S2 6 k)/\k<=j+1/\j<N/\S1.n<=S2.n) (λk=>j+1-k) 0 ?_ (dC fL1 aj)
   rintro k S2 ⟨fF2,A6,B3,B1⟩;have G8:=dJ (x:=A9) (n:=S2.n);have fL2:=(aa fF2 G8);by_cases hk:k<j+1
   .have e1:((j:Int)+1-1-k).toNat=j-k:=by omega
    obtain⟨a1,a2,b1,b2⟩:=PY j (by omega) k (by omega);obtain⟨b3,b4,_,_⟩:=PY j (by omega) (k+1) (by omega);rw[xl]at b3 b4;refine dE ai (aa fL2 (aa @jY @e1)) (aI λzb hc=> ?_);exact ak (k+1) (dC fL2 aj) (dC fL2 aj);all_goals rw[xl]
   .obtain rfl:k=j+1:=by omega
    refine dE ai (aa fL2 @jY) (aI λzb hc=> ?_);refine ak (j+1) (dC fL2 aj) (dC fL2 (aD λzb=> ?_));all_goals(simp[uc,jY])
   all_goals rfl
  .skip
   obtain rfl:j=N:=by omega
   rfl
 .rw[show HI n= -1 from zA8 h]
  refine fO au [2] Tryz.func347 ?_;have cE1:=@aA;exact dE ai trivial aj
def CK(v:Int):List Int->Int
 |[]=>0
 |w::l=>bU (decide (v<w))+CK v l
def de(p:List Int):Nat->Int
 |0=>0
 |k+1=>de p k+CK (p.getD k 0) (p.take k)
theorem CJ{v x:Int}:∀{l:List Int},CK v (l++[x])=CK v l+bU (decide (v<x))
 |[]=>by simp[CK]
 |w::l=>by rw[zF8,CK,CK,CJ];omega
theorem GX{v:Int}:∀{l:List Int},0<=CK v l/\CK v l<=l.length
 |[]=>by simp[CK]
 |w::l=>by have:=GX (v:=v) (l:=l);have:=ik (decide (v<w));rw[CK,zC1];omega
theorem Nj{p:List Int}:∀{k:Nat},k<=p.length->0<=de p k/\de p k<=(p.length*k:Nat)
 |0,_=>by simp[de]
 |k+1,h=>by
  have ih:=Nj (p:=p) (k:=k) (by omega);have h1:=GX (v:=p.getD k 0) (l:=p.take k);rw[zD3]at h1;rw[de,Nat.mul_succ];omega
theorem eX(p:List Int)(hp:p.length<=1048576):Fun Tryz.prog 169 [lI m0 p] [.int .i64 ((if ac p then de p p.length else -1))]:=by
 by_cases h:ac p=true
 .rw[zB0 h]
  have h8:p.length<=8:=by simp[ac]at h;exact h.1
  have hb:∀k,0<=de p k/\de p k<=8*(k:Int):=λk=>by
   induction k with
   |zero=>simp[de]
   |succ k ih=>
    have:=GX (v:=p.getD k 0) (l:=p.take k);rw[zD3]at this;rw[de];omega
  refine fO au [2] Tryz.func169 ?_;have cE1:=@bw;have cE2:=@ah;have cD1:=d7 (d8 13 [10]) [(0,10)];refine dE ai @h (aD λzb=> ?_);refine ao (λ(k:Nat) S1=>(S1.e 0=.p (lI m0 p)/\eI S1 3 (de p k)/\eI S1 4 k)/\k<=p.length) (λk=>p.length-k) 0 ?_ (dC trivial aj);rintro k S1 ⟨fL1,A1⟩
  .have b1:=hb k
   refine dE ai fL1 (f9 ?_ ?_)<;>intro zb hc
   .refine ao (λ(i:Nat) S2=>(S2.e 0=.p (lI m0 p)/\eI S2 3 ((de p k+CK (p.getD k 0) (p.take i)))/\eI S2 4 k/\eI S2 5 i)/\i<=k/\k<p.length/\S1.n<=S2.n) (λi=>k-i) 0 ?_ (dC fL1 (aD λzb=> ?_))
    rintro i S2 ⟨fL2,A6,B3,B1⟩
    .have b2:=GX (v:=p.getD k 0) (l:=p.take i)
     have b3:=ik (decide (p.getD k 0<p.getD i 0));rw[zD3]at b2;refine dE ai fL2 (f9 ?_ ?_)<;>intro zb hc
     .refine ak (i+1) (dC fL2 aj) (dC fL2 (aD λzb=> ?_))
      rw[aq (d:=0) (by omega),CJ];omega
     .refine ak (k+1) (dC fL2 aj) (dC fL2 (aD λzb=> ?_))
      obtain rfl:i=k:=by omega
      rfl
    .simp[CK]
   .obtain rfl:k=p.length:=by omega
    rfl
 .rw[zA8 h]
  rw[zA9]at h;refine fO au [2] Tryz.func169 ?_;have cE1:=@bw;have cE2:=@ah;have cD1:=d7 (d8 13 [10]) [(0,10)];exact dE ai @h aj
def DK(p:List Int):Nat->List Bool->Nat->List Bool
 |0,v,_=>v
 |d+1,v,x=>if v.getD x false=true then v else DK p d (v.set x true) (p.getD x 0-1).toNat
def lO(p:List Int):Nat->List Bool×Int
 |0=>(List.replicate p.length false,0)
 |k+1=>if(lO p k).1.getD k false=true then lO p k else(DK p p.length (lO p k).1 k,(lO p k).2+1)
def YC(v:List Bool):Nat:=v.countP λb=> !b
theorem Ap:∀{v:List Bool} {x:Nat},x<v.length->v.getD x false=false->YC (v.set x true)+1=YC v
 |b::v,0,_,h=>by
  simp only[List.getD_cons_zero]at h;subst h;simp[YC]
 |b::v,x+1,hx,h=>by
  have:=Ap (v:=v) (x:=x) (by simpa using hx) (by simpa using h);simp only[YC,List.set_cons_succ,List.countP_cons]at this |-;omega
theorem NF{v:List Bool}:YC v<=v.length:=List.countP_le_length
theorem tE{d:Nat}{v:List Bool}{x:Nat}(h:v.getD x false=true):DK p d v x=v:=by
 cases d with
 |zero=>rfl
 |succ d=>rw[DK,zB0 h]
theorem uU{p:List Int}:∀{d:Nat} {v:List Bool} {x:Nat},(DK p d v x).length=v.length
 |0,_,_=>rfl
 |d+1,v,x=>by rw[DK];split;rfl;rw[uU,zI1]
theorem Hn{p:List Int}:∀{k:Nat},(lO p k).1.length=p.length/\0<=(lO p k).2/\(lO p k).2<=k
 |0=>by simp[lO]
 |k+1=>by
  obtain⟨h1,h2,h3⟩:=Hn (p:=p) (k:=k);rw[lO];split
  .exact⟨h1,h2,by omega⟩
  .exact⟨by rw[uU,h1],by simp only;omega,by simp only;omega⟩
def Oi(p:List Int):Int:=if ac p=true then(lO p p.length).2 else -1
theorem Oh: -1<=Oi p/\Oi p<=8:=by
 unfold Oi;split
 .rename_i h
  have h8:=(al h).1;obtain⟨_,h2,h3⟩:=Hn (p:=p) (k:=p.length);omega
 .omega
theorem ic(p:List Int)(hl:p.length<=1048576):Fun Tryz.prog 230 [lI m0 p] [.int .i64 (Oi p)]:=by
 by_cases h:ac p=true
 .obtain⟨h8,hq⟩:=al h
  rw[Oi,zB0 h];refine fO au [2] Tryz.func230 ?_;have cE1:=@ae;refine dE ai @h (aD λzb=> ?_);refine ao (λ(k:Nat) S1=>(S1.e 0=.p (lI m0 p)/\eI S1 4 ((lO p k).2)/\eI S1 14 p.length/\eI S1 15 k)/\OwnL (S1.e 3) S1.h S1.n PV.bool (((lO p k).1).length) ((lO p k).1)/\k<=p.length) (λk=>p.length-k) 0 ?_ (dC trivial (aD λzb=> ?_));rintro k S1 ⟨fF1,A4,A1⟩;obtain⟨A9,A2,B6⟩:=A4.ou;have fL1:=(aa fF1 A2)
  .obtain⟨q1,q2,q3⟩:=Hn (p:=p) (k:=k)
   by_cases hk:k<p.length
   .have e0:lO p (k+1)=if(lO p k).1.getD k false=true then lO p k else(DK p p.length (lO p k).1 k,(lO p k).2+1):=rfl
    have e1:(lO p (k+1)).1=DK p p.length (lO p k).1 k:=by
     rw[e0];split
     .rename_i g;exact(tE g).symm
     .rfl
    have e2:(lO p (k+1)).2=if(lO p k).1.getD k false=true then(lO p k).2 else(lO p k).2+1:=by rw[e0];split<;>rfl
    generalize hV:(lO p k).1=V at*
    generalize hC:(lO p k).2=C at*
    obtain⟨T,hT⟩:∃T,DK p p.length V k=T:=⟨_,rfl⟩;rw[hT]at e1;have hT8:T.length=p.length:=by rw[<-hT,uU,q1]
    have fle:=NF (v:=V);cases hb:V.getD k false with
    |true=>
     rw[hb,zB0 rfl]at e2;rw[tE hb]at hT;refine dE ai (aa fL1 @hb) (aI λzb hc=> ?_);refine ao (λ(u:Nat) S2=>(S2.e 0=.p (lI m0 p)/\eI S2 4 C/\eI S2 14 p.length/\eI S2 15 k/\eI S2 5 k/\eI S2 6 k)/\OwnL (S2.e 3) S2.h S2.n PV.bool ((V).length) V/\S1.n<=S2.n) (λu=>u) 0 ?_ (dC fL1 aj);rintro u S2 ⟨fF2,C9,B1⟩;obtain⟨F3,C6,F4⟩:=C9.ou;have fL2:=(aa fF2 C6)
     .refine dE ai (aa fL2 @hb) (aD λzb=> ?_)
      refine ak (k+1) (dC fL2 aj) (dC fL2 (bu ?_ ?_))<;>intro zb;all_goals(first|(rw[e1,<-hT];done)|(rw[e2];done)|(rw[e1,hT8,q1];done)|skip)
    |false=>
     rw[hb,zA8 (by decide)]at e2;refine dE ai (aa fL1 @hb) (aI λzb hc=> ?_);refine ku (λ(d:Nat) (v:List Bool) (x:Nat) S3=>(S3.e 0=.p (lI m0 p)/\eI S3 4 ((C+1))/\eI S3 14 p.length/\eI S3 15 k/\eI S3 5 k/\eI S3 6 x)/\OwnL (S3.e 3) S3.h S3.n PV.bool ((v).length) v/\v.length=p.length/\x<p.length/\DK p d v x=T/\YC v<=d/\S1.n<=S3.n) (λd _ _=>d) p.length V k ?_ (dC fL1 aj);rintro d v x S3 ⟨fF3,V1,G7,F8,G9,V2,K6⟩;obtain⟨i3_3,V3,l3_3⟩:=V1.ou;have fL3:=(aa fF3 V3)
     .have x1:=(permB_iff.1 hq).1 _ (am (l:=p) (i:=x) (d:=0) (by omega))
      cases hv:v.getD x false with
      |true=>
       rw[tE hv]at G9;refine dE ai (aa fL3 @hv) (aD λzb=> ?_);refine ak (k+1) (dC fL3 aj) (dC fL3 (bu ?_ ?_))<;>intro zb;all_goals(first|(rw[e1,<-G9];done)|(rw[e2];done)|(rw[e1,hT8,G7];done)|skip)
      |false=>
       have x2:=Ap (by omega) hv;obtain⟨d,rfl⟩:∃e,d=e+1:=⟨d-1,by omega⟩;rw[DK,zA8 (by rw[hv];decide)]at G9;refine dE ai (aa fL3 @hv) (aD λzb=> ?_);exact gG d (v.set x true) ((p.getD x 0-1).toNat) (dC fL3 aj) (dC fL3 aj)
   .obtain rfl:k=p.length:=by omega
    exact dE ai fL1 aj
  all_goals(first|(simp[lO];done)|skip)
 .rw[Oi,zA8 h]
  rw[zA9]at h;refine fO au [2] Tryz.func230 ?_;have cE1:=@ae;exact dE ai @h aj
theorem hZ(p:List Int)(hl:p.length<=1048576):Fun Tryz.prog 171 [lI m0 p] [.int .i64 (Oi p)]:=by
 by_cases h:ac p=true
 .obtain⟨h8,hq⟩:=al h
  rw[Oi,zB0 h];refine fO au [2] Tryz.func171 ?_;have cE1:=@ah;refine dE ai @h (aD λzb=> ?_);refine ao (λ(k:Nat) S1=>(S1.e 0=.p (lI m0 p)/\eI S1 3 ((lO p k).2)/\eI S1 5 k)/\OwnL (S1.e 4) S1.h S1.n PV.bool (((lO p k).1).length) ((lO p k).1)/\k<=p.length) (λk=>p.length-k) 0 ?_ (dC trivial (aD λzb=> ?_));rintro k S1 ⟨fF1,B7,A1⟩;obtain⟨C4,B2,C8⟩:=B7.ou;have fL1:=(aa fF1 B2)
  .obtain⟨q1,q2,q3⟩:=Hn (p:=p) (k:=k)
   by_cases hk:k<p.length
   .have e0:lO p (k+1)=if(lO p k).1.getD k false=true then lO p k else(DK p p.length (lO p k).1 k,(lO p k).2+1):=rfl
    have e1:(lO p (k+1)).1=DK p p.length (lO p k).1 k:=by
     rw[e0];split
     .rename_i g;exact(tE g).symm
     .rfl
    have e2:(lO p (k+1)).2=if(lO p k).1.getD k false=true then(lO p k).2 else(lO p k).2+1:=by rw[e0];split<;>rfl
    generalize hV:(lO p k).1=V at*
    generalize hC:(lO p k).2=C at*
    obtain⟨T,hT⟩:∃T,DK p p.length V k=T:=⟨_,rfl⟩;rw[hT]at e1;have hT8:T.length=p.length:=by rw[<-hT,uU,q1]
    have fle:=NF (v:=V);cases hb:V.getD k false with
    |true=>
     rw[hb,zB0 rfl]at e2;rw[tE hb]at hT;refine dE ai (aa fL1 @hb) (aI λzb hc=> ?_);refine ak (k+1) (dC fL1 aj) (dC fL1 (bu ?_ ?_))<;>intro zb;all_goals(first|(rw[e1,<-hT];done)|(rw[e2];done)|(rw[e1,hT8,q1];done)|skip)
    |false=>
     rw[hb,zA8 (by decide)]at e2;refine dE ai (aa fL1 @hb) (aI λzb hc=> ?_);refine ku (λ(d:Nat) (v:List Bool) (x:Nat) S3=>(S3.e 0=.p (lI m0 p)/\eI S3 3 ((C+1))/\eI S3 5 k/\eI S3 6 x)/\OwnL (S3.e 4) S3.h S3.n PV.bool ((v).length) v/\v.length=p.length/\x<p.length/\DK p d v x=T/\YC v<=d/\S1.n<=S3.n) (λd _ _=>d) p.length V k ?_ (dC fL1 aj);rintro d v x S3 ⟨fF3,V4,G7,F8,G9,V2,K6⟩;obtain⟨i3_4,V5,l3_4⟩:=V4.ou;have fL3:=(aa fF3 V5)
     .have x1:=(permB_iff.1 hq).1 _ (am (l:=p) (i:=x) (d:=0) (by omega))
      cases hv:v.getD x false with
      |true=>
       rw[tE hv]at G9;refine dE ai (aa fL3 @hv) (aD λzb=> ?_);refine ak (k+1) (dC fL3 aj) (dC fL3 (bu ?_ ?_))<;>intro zb;all_goals(first|(rw[e1,<-G9];done)|(rw[e2];done)|(rw[e1,hT8,G7];done)|skip)
      |false=>
       have x2:=Ap (by omega) hv;obtain⟨d,rfl⟩:∃e,d=e+1:=⟨d-1,by omega⟩;rw[DK,zA8 (by rw[hv];decide)]at G9;refine dE ai (aa fL3 @hv) (aD λzb=> ?_);exact gG d (v.set x true) ((p.getD x 0-1).toNat) (dC fL3 aj) (dC fL3 aj)
   .obtain rfl:k=p.length:=by omega
    exact dE ai fL1 aj
  all_goals(first|(simp[lO];done)|skip)
 .rw[Oi,zA8 h]
  rw[zA9]at h;refine fO au [2] Tryz.func171 ?_;have cE1:=@ah;exact dE ai @h aj
def f8(p:List Int)(x:Int)(i:Nat):Int:=(((p.take i).filter λy=>decide (x<=y)).length:Nat)
theorem xb(h:i<p.length):f8 p x (i+1)=f8 p x i+bU (decide (x<=p.getD i 0)):=by
 rw[f8,f8,aq (d:=0) h,List.filter_append,zA3,List.filter_cons];generalize p.getD i 0=y;by_cases g:x<=y<;>simp[g,bU]
theorem OV:0<=f8 p x i/\f8 p x i<=i:=by
 have:=zG8 (λy=>decide (x<=y)) (p.take i);have:=zD3 (l:=p) (i:=i);unfold f8;omega
theorem gQ(p:List Int)(i x:Int)(h0:0<=i)(hi:i<=p.length)(hp:p.length<=1048576):Fun Tryz.prog 200 [lI m0 p,.int .i64 i,.int .i64 x] [.int .i64 (f8 p x i.toNat)]:=by
 obtain⟨i,rfl⟩:=zG6 h0;rw[zC9];refine fO au [6] Tryz.func200 ?_;have cE1:=@bw;refine dE ai trivial (aD λzb=> ?_);refine ao (λ(k:Nat) S1=>(S1.e 0=.p (lI m0 p)/\eI S1 1 i/\eI S1 2 x/\eI S1 7 (f8 p x k)/\eI S1 8 k)/\k<=i) (λk=>i-k) 0 ?_ (dC trivial aj);rintro k S1 ⟨fL1,A1⟩;have b1:=OV (p:=p) (x:=x) (i:=k);have b2:=ik (decide (x<=p.getD k 0));by_cases hk:k<i
 .refine dE ai fL1 (aI λzb hc=> ?_)
  refine ak (k+1) (dC fL1 aj) (dC fL1 (aD λzb=> ?_));all_goals(first|(rw[xb (by omega)];done)|skip)
 .refine dE ai fL1 (aI λzb hc=> ?_)
  obtain rfl:k=i:=by omega
  rfl
def sbC(p q:List Int)(i j:Nat):Bool:=(List.range j).all λx=>decide (f8 p ((x:Int)+1) i<=f8 q ((x:Int)+1) i)
def ZU(p q:List Int)(i:Nat):Bool:=(List.range i).all λk=>sbC p q (k+1) p.length
def zr(p q:List Int):Bool:=ac p&&ac q&&decide (p.length=q.length)&&ZU p q p.length
theorem Ud(hi:i<p.length)(hj:j<p.length)(h:f8 q ((j:Int)+1) (i+1)<f8 p ((j:Int)+1) (i+1)):ZU p q p.length=false:=
 List.all_eq_false.2 ⟨i,zD5.2 hi,by
  rw[zA9];exact List.all_eq_false.2 ⟨j,zD5.2 hj,by simp only[zC2];omega⟩⟩
theorem Lt(h:∀i,i<p.length->∀j,j<p.length->f8 p ((j:Int)+1) (i+1)<=f8 q ((j:Int)+1) (i+1)):ZU p q p.length=true:=
 zC8.2 λi hi=>zC8.2 λj hj=>zB6 (h i (zD5.1 hi) j (zD5.1 hj))
theorem qr{m1:Bool}(p q:List Int)(hp:p.length<=1048576)(hq:q.length<=1048576):Fun Tryz.prog 100 [lI m0 p,lI m1 q] [.bool (zr p q)]:=by
 by_cases h1:ac p=true
 .by_cases h2:ac q=true
  .by_cases h3:p.length=q.length
   .have h4:((p.length:Int)=(q.length:Int))=True:=zF5 (by omega)
    have e:zr p q=ZU p q p.length:=by rw[zr,h1,h2,zB6 h3];rfl
    rw[e];refine fO au [4] Tryz.func100 ?_;have cE1:=@ah;have cE2:=@gQ;refine dE ai (aa @h1 (aa @h2 @h4)) (aD λzb=> ?_);refine ao (λ(i:Nat) S1=>(S1.e 0=.p (lI m0 p)/\S1.e 1=.p (lI m1 q)/\eI S1 5 (((i:Int)+1)))/\i<=p.length/\(∀a,a<i->∀j,j<p.length->f8 p ((j:Int)+1) (a+1)<=f8 q ((j:Int)+1) (a+1))) (λi=>p.length-i) 0 ?_ (dC trivial aj);rintro i S1 ⟨fL1,A1,A0⟩
    .by_cases hi:i<p.length
     .refine dE ai fL1 (aI λzb hc=> ?_)
      refine ao (λ(j:Nat) S2=>(S2.e 0=.p (lI m0 p)/\S2.e 1=.p (lI m1 q)/\eI S2 5 (((i:Int)+1))/\eI S2 6 (((j:Int)+1)))/\j<=p.length/\(∀x,x<j->f8 p ((x:Int)+1) (i+1)<=f8 q ((x:Int)+1) (i+1))/\S1.n<=S2.n) (λj=>p.length-j) 0 ?_ (dC fL1 aj);rintro j S2 ⟨fL2,A6,B3,B1⟩
      .have z1:((i:Int)+1).toNat=i+1:=by omega
       by_cases hj:j<p.length
       .refine dE ai (aa fL2 @z1) (f9 ?_ ?_)<;>intro zb hc
        .rw[Ud hi hj (by omega)]
        .refine ak (j+1) (dC fL2 aj) (dC fL2 (aD λzb=> ?_))
         all_goals(first|(intro x hx;by_cases g:x=j;(subst g;omega);exact B3 x (by omega))|skip)
       .refine dE ai (aa fL2 @z1) (aI λzb hc=> ?_)
        refine ak (i+1) (dC fL2 aj) (dC fL2 (aD λzb=> ?_));all_goals(first|(intro a ha x hx;by_cases g:a=i;(subst g;exact B3 x (by omega));exact A0 a (by omega) x hx)|skip)
     .rw[Lt λa ha=>A0 a (by omega)]
      exact dE ai fL1 aj
   .have h4:((p.length:Int)=(q.length:Int))=False:=zC6 (by omega)
    have e:zr p q=false:=by rw[zr,zB8 h3];simp
    rw[e];refine fO au [4] Tryz.func100 ?_;have cE1:=@ah;have cE2:=@gQ;exact dE ai (aa @h1 (aa @h2 @h4)) aj
  .rw[zA9]at h2
   have e:zr p q=false:=by rw[zr,h2];simp
   rw[e];refine fO au [4] Tryz.func100 ?_;have cE1:=@ah;have cE2:=@gQ;exact dE ai (aa @h1 @h2) aj
 .rw[zA9]at h1
  have e:zr p q=false:=by rw[zr,h1];rfl
  rw[e];refine fO au [4] Tryz.func100 ?_;have cE1:=@ah;have cE2:=@gQ;exact dE ai @h1 aj
end Go.Gl
