/-
  What the functions compute, and what the law asks of it: texts joined. Conditions: those that each lemma names.
-/
import Derived.Test.YtjimcmbfljdelaaGreatDoorT4
import Derived.Test.YtjimcmbfljdelaaGreatDoorT1
set_option linter.unusedSimpArgs false
set_option linter.unusedVariables false
set_option maxRecDepth 20000
set_option linter.unusedSectionVars false
set_option maxHeartbeats 16000000
variable{kd:Go.IntKind}{n x:Int}{f:Go.FuncId}{c ys:List Go.Gl.PV}{ag:List Go.Gl.Arg}{os:List (Option (List Go.Gl.PV))}{cs rd:List Nat}{i id len off r:Nat}{m m0 m1:Bool}{T U:List (List Int)}{p:List Int}
namespace Go.Gl
open Go Go.Proofs
variable [Amb][NoQ]
def fstN(n:Int):List Int->Nat
 |[]=>0
 |x::l=>if x<n then fstN n l+1 else 0
theorem uQ{n:Int}:∀{l:List Int},fstN n l<=l.length
 |[]=>zB1 _
 |x::l=>by have:=uQ (n:=n) (l:=l);rw[fstN,zC1];split<;>omega
theorem yo{n:Int}:∀{l:List Int},(∀j,j<fstN n l->l.getD j 0<n)/\(fstN n l<l.length->¬l.getD (fstN n l) 0<n)
 |[]=>by simp[fstN]
 |x::l=>by
  obtain⟨h1,h2⟩:=yo (n:=n) (l:=l);rw[fstN];by_cases q:x<n
  .rw[zB0 q]
   refine⟨λj hj=> ?_,λh=> ?_⟩
   .cases j with
    |zero=>exact q
    |succ j=>exact h1 j (by omega)
   .exact h2 (by simpa using h)
  .rw[zA8 q]
   exact⟨λj hj=>absurd hj (by omega),λ_=>q⟩
def cx:List (List Int)->Int->List (List Int)×Nat
 |[],n=>([[n]],0)
 |l::T,n=>if fstN n l=l.length then((l++[n])::T,0)else(l.set (fstN n l) n::(cx T (l.getD (fstN n l) 0)).1,(cx T (l.getD (fstN n l) 0)).2+1)
theorem mw:∀{T:List (List Int)} {n:Int},(cx T n).2<=T.length/\(cx T n).1.length=if(cx T n).2=T.length then T.length+1 else T.length
 |[],n=>by simp[cx]
 |l::T,n=>by
  rw[cx];split
  .simp
  .have:=mw (T:=T) (n:=l.getD (fstN n l) 0)
   simp only[zC1];refine⟨by omega, ?_⟩;rw[this.2];split<;>split<;>omega
def bi(p:List Int):Nat->List (List Int)×List (List Int)
 |0=>([],[])
 |k+1=>((cx (bi p k).1 (p.getD k 0)).1,if(cx (bi p k).1 (p.getD k 0)).2=(bi p k).2.length then(bi p k).2++[[(k:Int)+1]]else(bi p k).2.set (cx (bi p k).1 (p.getD k 0)).2 ((bi p k).2.getD (cx (bi p k).1 (p.getD k 0)).2 []++[(k:Int)+1]))
theorem mD{p:List Int}:∀{k:Nat},(bi p k).1.length=(bi p k).2.length
 |0=>rfl
 |k+1=>by
  have h:=mD (p:=p) (k:=k);have h2:=mw (T:=(bi p k).1) (n:=p.getD k 0);rw[bi];simp only;rw[h2.2,h];split<;>simp
theorem By{B:Nat}:∀{T:List (List Int)} {n:Int},(∀l∈T,l.length<=B)->∀l∈(cx T n).1,l.length<=B+1
 |[],n,_,l,hl=>by simp[cx]at hl;subst hl;simp
 |r::T,n,h,l,hl=>by
  have h0:=h r zH1;rw[cx]at hl;split at hl
  .rcases zD7.1 hl with q|q
   .subst q;simp;omega
   .have:=h l (zF1 _ q);omega
  .rcases zD7.1 hl with q|q
   .subst q;simp;omega
   .exact By (λx hx=>h x (zF1 _ hx)) l q
theorem Ah{p:List Int}:∀{k:Nat},(bi p k).1.length<=k/\(∀l∈(bi p k).1,l.length<=k)/\∀l∈(bi p k).2,l.length<=k
 |0=>by simp[bi]
 |k+1=>by
  obtain⟨h1,h2,h3⟩:=Ah (p:=p) (k:=k);have g:=mw (T:=(bi p k).1) (n:=p.getD k 0);rw[bi];refine⟨by simp only;rw[g.2];split<;>omega,By h2,λl hl=> ?_⟩;simp only at hl;split at hl
  .rcases zB3.1 hl with q|q
   .have:=h3 l q;omega
   .simp at q;subst q;simp
  .rcases List.mem_or_eq_of_mem_set hl with q|q
   .have:=h3 l q;omega
   .subst q
    rename_i hr;have hlen:=mD (p:=p) (k:=k);have:=h3 _ (am (d:=[]) (show(cx (bi p k).1 (p.getD k 0)).2<(bi p k).2.length by omega));rw[zA3,zC5];omega
section
variable {P:Program}{h:Nat->Blk}{k:Nat}{C:R->Prop}
theorem v_callTe{α:Type}{g:α->PV}{L:List (List α)}{ms:List (Option (Nat×Option Nat))}
  (hf:CallT P true f (.mu false c::ag) (none::os) [.dl (L.map (List.map g)),.int kd n]) (hn:(ms.all Option.isNone)=true) (hid:id∉rd)
  (hc:C ⟨.tup [.ref k 0 L.length,.p (.int kd n)],[(id,.dead),(k,dk g (sI (h id)) L)],id::rd⟩):Pk P h k f C (.mu false c::ag) rd (some (id,none)::ms):=by
 refine oY hf hn hid ?_;simp only[zF3];have e1:impAll k [.dl (L.map (List.map g)),.int kd n]=.tup [.ref k 0 L.length,.p (.int kd n)]:=by simp[impAll,imps,imp,imp1]
 have e2:impWs (true&&sI (h id)) k [.dl (L.map (List.map g)),.int kd n]=[(k,dk g (sI (h id)) L)]:=by simp[impWs,impW,impW1,dk]
 rw[e1,e2];exact hc
theorem ZH{α:Type}{f:α->PV}{L:List (List α)}:apI (dk f m L) id r len k C ys rd=(r<L.length/\len=(L.getD r []).length/\id∉rd/\len+ys.length<=1099511627776/\C ⟨.ref k 0 (len+ys.length),[(id,mM f m (List.range L.length) ((L.map some).set r none)),(k,.live m ((L.getD r []).map f++ys))],id::rd⟩):=by
 rw[Zj,ON,zA5];by_cases hr:r<L.length
 .rw[zA1 hr,zE4,OP]
  have e:L.getD r []=L[r]:=by rw[zA0,zA1 hr];rfl
  simp only[e,hr,true_and]
 .rw[zG9 (by omega)];simp[hr,apQ]
theorem Yz{rows:List (List PV)}{kd':IntKind}{n':Int}:fu true h k [.ref id off len,.p (.int kd n)] [.dl rows,.int kd' n'] F0=(Pn (h id) true k id off len rows FT/\kd=kd'/\n=n'):=by
 simp only[fu,fin,mJ,Pn];cases h id with
 |deep m cs rs=>
  simp only[AV.p.injEq,PV.int.injEq,zC0,F0,FT,zF6,List.not_mem_nil,false_imp_iff,implies_true,List.Pairwise.nil,and_true,_root_.and_true,and_self];apply propext;constructor
  .rintro⟨h1,h2,sel,h3,h4,h5⟩;exact⟨⟨h1,h2,sel,h3,h4⟩,h5.1,h5.2⟩
  .rintro⟨⟨h1,h2,sel,h3,h4⟩,h5,h6⟩;exact⟨h1,h2,sel,h3,h4,h5,h6⟩
 |_=>simp
theorem VS{m':Bool}{L:List (Option (List Int))}{id' off':Nat}:ub (mM (PV.int .i64) m cs L) (.live m' [PV.int .i64 n]) id off id' off' len C=((m'=true->m=true)/\off'=0/\len=1/\off<cs.length/\id'≠id/\C ⟨.p .any,[(id',.dead),(id,mM (PV.int .i64) m (cs.set off L.length) (L++[some [n]]))],[id,id']⟩):=KN (l:=[n])
theorem aea{v:Int}{j n:Nat}:Ps (dk (PV.int .i64) m U) (.deep false [.row 0] [some [PV.int .i64 v]]) id len j n k C=Ps (dk (PV.int .i64) m U) (dk (PV.int .i64) false [[v]]) id len j n k C:=_root_.id rfl
end
attribute [go_sem] ZH aea Yz VS
def tL:FuncId->List Bool:=λf=>if f=344 then[true]else if f=4294967297 then[true,false,false,false]else[]
theorem Lo:tL f=if f=344 then[true]else if f=4294967297 then[true,false,false,false]else[]:=_root_.id rfl
theorem HA:ga tL=false/\gu tL=true/\gs tL=false/\gr tL=false/\gB tL=false:=⟨rfl,rfl,rfl,rfl,rfl⟩
attribute [go_sem] Lo HA
theorem yz(h:r<T.length):T.drop r=T.getD r []::T.drop (r+1):=by
 rw[zA0,zA1 h,zH5,List.drop_eq_getElem_cons h]
theorem aaV{β:Type}{l:List β}{x:β}(h:i<l.length):(l.set i x).take (i+1)=l.take i++[x]:=by
 rw[List.set_eq_take_append_cons_drop,zB0 h,List.take_append,zA2 (by simp;omega),zD3,Nat.min_eq_left (by omega),Nat.add_sub_cancel_left];rfl
theorem T9{β:Type}{l:List β}{x:β}:(l.set i x).drop (i+1)=l.drop (i+1):=by rw[List.drop_set,zB0 (by omega)]
theorem VN{β:Type}{l:List β}{x:β}(h:i<l.length):l.set i x=l.take i++x::l.drop (i+1):=by rw[List.set_eq_take_append_cons_drop,zB0 h]
theorem abn{n:Nat}(h:i<n):(List.range n).getD i 0=i:=by rw[zA0,List.getElem?_range h];rfl
theorem xq(T:List (List Int))(n:Int)(hT:T.length<=1000)(hl:∀l∈T,l.length<=1000):
  CallT Tryz.prog true 344 [.mu false [.dl (List.map (List.map (PV.int .i64)) T)],.pv (.int .i64 n)] [none,none] [.dl (List.map (List.map (PV.int .i64)) (cx T n).1),.int .i64 ((cx T n).2:Int)]:=by
 refine CallT.of (sg:=tL) (ts:=[4,5]) mo Tryz.func344 rfl rfl rfl rfl (by kernel_rfl) (by simp only[go_sem]) rfl (by simp only[go_sem]) ?_;refine dE dN trivial (aD λzb=> ?_);refine ku (λ(r:Nat) (U:List (List Int)) (v:Int) S1=>(S1.e 0=.ref 0 0 (U).length/\S1.h 0=dk (PV.int .i64) true U/\eI S1 1 v/\eI S1 6 r)/\0<S1.n/\r<=T.length/\U.length=T.length/\U.drop r=T.drop r/\(cx T n).1=U.take r++(cx (T.drop r) v).1/\(cx T n).2=r+(cx (T.drop r) v).2) (λr _ _=>T.length-r) 0 T n ?_ (dC trivial aj);rintro r U v S1 ⟨fF1,J1,A1,A0,A3,B5,C7⟩;have n0:=dJ (x:=0) (n:=S1.n);have fL1:=(aa fF1 n0)
 .by_cases hr:r<T.length
  .have d1:T.drop r=U.getD r []::T.drop (r+1):=by
    rw[<-A3,yz (by omega),show U.drop (r+1)=T.drop (r+1)by rw[<-zI4,<-zI4,A3]]
   have d2:(U.getD r []).length<=1000:=by
    refine hl _ ?_;have:U.getD r []∈T.drop r:=by rw[d1];exact zH1
    exact List.mem_of_mem_drop this
   obtain⟨row,hrow⟩:∃row,U.getD r []=row:=⟨_,rfl⟩;rw[hrow]at d1 d2;obtain⟨s1,s2⟩:=yo (n:=v) (l:=row);have s3:=uQ (n:=v) (l:=row);refine dE dN (aa fL1 @hrow) (aI λzb hc=> ?_);refine ao (λ(c:Nat) S2=>(S2.e 0=.ref 0 0 (U).length/\S2.h 0=dk (PV.int .i64) true U/\eI S2 1 v/\eI S2 6 r/\eI S2 7 c)/\0<S2.n/\c<=fstN v row/\S1.n<=S2.n) (λc=>fstN v row-c) 0 ?_ (dC fL1 aj);rintro c S2 ⟨fF2,W3,A6,B1⟩;have n0:=dJ (x:=0) (n:=S2.n);have fL2:=(aa fF2 n0)
   .by_cases hc:c<fstN v row
    .have s4:=s1 c hc
     refine dE dN (aa fL2 @hrow) (aI λzb hc=> ?_);exact ak (c+1) (dC fL2 aj) (dC fL2 aj)
    .obtain rfl:c=fstN v row:=by omega
     by_cases he:fstN v row=row.length
     .have p1:cx (T.drop r) v=((row++[v])::T.drop (r+1),0):=by rw[d1,cx,zB0 he]
      rw[p1]at B5 C7;have p2:(cx T n).1=U.set r (row++[v]):=by
       rw[B5,VN (by omega),show U.drop (r+1)=T.drop (r+1)by rw[<-zI4,<-zI4,A3]]
      have p3:=rr (KC (T:=U)) (i:=r) (l:=row++[v]) (by omega);rw[abn (by omega)]at p3;refine dE dN (aa fL2 (aa @hrow @he)) (aI λzb hc=> ?_)
      .exact Hg (T:=U.set r (row++[v])) p3 (λh=>h) (by rw[p2]) (by simp) trivial
     .have s4:=s2 (by omega)
      have p1:cx (T.drop r) v=(row.set (fstN v row) v::(cx (T.drop (r+1)) (row.getD (fstN v row) 0)).1,(cx (T.drop (r+1)) (row.getD (fstN v row) 0)).2+1):=by rw[d1,cx,zA8 he]
      rw[p1]at B5 C7;refine dE dN (aa fL2 @hrow) (aI λzb hc=> ?_);refine gG (r+1) (U.set r (row.set (fstN v row) v)) (row.getD (fstN v row) 0) (dC fL2 aj) (dC fL2 (bu ?_ ?_))<;>intro zb;all_goals first|(rw[T9,<-zI4,<-zI4,A3];done)|(rw[aaV (by omega),B5];simp;done)|(rw[C7];omega)|trace_state
  .have p1:cx (T.drop r) v=([[v]],0):=by rw[zA6 (by omega),cx]
   rw[p1]at B5 C7;rw[zA2 (by omega)]at B5;refine dE dN fL1 (aI λzb hc=> ?_)
   .rw[zA2 (by simp),B5]
theorem mg(p:List Int)(h8:p.length<=8):Fun Tryz.prog 285 [lI m0 p] [.dl (List.map (List.map (PV.int .i64)) ((bi p p.length).1)),.dl (List.map (List.map (PV.int .i64)) ((bi p p.length).2))]:=by
 refine fO tL [2,3] Tryz.func285 ?_;refine dE Pv trivial (aD λzb=> ?_);refine ku (λ(k:Nat) (cs:List Nat) (L:List (Option (List Int))) S1=>(S1.e 0=.p (lI m0 p)/\eI S1 6 k)/\DwnL (S1.e 4) S1.h S1.n (PV.int .i64) (((bi p k).1).length) ((bi p k).1)/\GwnL (S1.e 5) S1.h S1.n (PV.int .i64) cs L/\k<=p.length/\Tb cs L (bi p k).2/\NId (S1.e 5) (S1.e 4)) (λk _ _=>p.length-k) 0 [] [] ?_ (dC trivial (aD λzb=> ?_));rintro k cs L S1 ⟨fF1,B7,A7,A1,A0,A8⟩;obtain⟨C4,B2,C8⟩:=B7.ou;obtain⟨B4,A5,B8⟩:=A7.ou;have di1_5i1_4:=(A8).ou A5.1 B2.1;have J5:=of_eq_false di1_5i1_4.1;have fL1:=(aa fF1 (aa B2 (aa A5 di1_5i1_4)))
 .obtain⟨i1,i2,i3⟩:=Ah (p:=p) (k:=k)
  have i4:=mD (p:=p) (k:=k);by_cases hk:k<p.length
  .have hT:=A0.len
   have q1:=mw (T:=(bi p k).1) (n:=p.getD k 0);have q2:bi p (k+1)=((cx (bi p k).1 (p.getD k 0)).1,if(cx (bi p k).1 (p.getD k 0)).2=(bi p k).2.length then(bi p k).2++[[(k:Int)+1]]else(bi p k).2.set (cx (bi p k).1 (p.getD k 0)).2 ((bi p k).2.getD (cx (bi p k).1 (p.getD k 0)).2 []++[(k:Int)+1])):=rfl;have cp:=xq (bi p k).1 (p.getD k 0) (by omega) (λl hl=>by have:=i2 l hl;omega);generalize hA:(bi p k).1=TA at*
   generalize hB:(bi p k).2=TB at*
   generalize hP:cx TA (p.getD k 0)=W at*
   obtain⟨TA',r⟩:=W;simp only at q1 q2 cp;by_cases hr:r=TB.length
   .rw[zB0 hr]at q2
    have g0:((r:Int)=cs.length)=True:=zF5 (by omega);have t1:=y5 (l:=([]:List Int)) A0;have t2:=rr (i:=r) (l:=[(k:Int)+1]) t1 (by simp;omega);have e1:(cs++[L.length]).getD r 0=L.length:=NB (by omega);have e2:(L++[some ([]:List Int)])[L.length]? =some (some []):=Ny rfl;rw[e1]at t2;have e9:(TB++[([]:List Int)]).set r [(k:Int)+1]=TB++[[(k:Int)+1]]:=by subst hr;simp
    rw[e9]at t2;have cM1:=@cp;refine dE Pv (aa fL1 (aa @g0 (aa @e1 @e2))) (aI λzb hc=> ?_);refine gG (k+1) ((cs++[L.length]).set r ((L++[some []]).set L.length none).length) ((L++[some []]).set L.length none++[some [(k:Int)+1]]) (dC fL1 aj) (dC fL1 (yQ ?_ ?_ ?_))<;>intro zb;all_goals first|(rw[q2];exact t2)|(rw[q2];done)|(rw[q2];rfl)|trace_state
   .rw[zA8 hr]at q2
    have g0:((r:Int)=cs.length)=False:=zC6 (by omega);have e2:=A0.at_ r (by omega);have t2:=rr (i:=r) (l:=TB.getD r []++[(k:Int)+1]) A0 (by omega);have e3:=i3 (TB.getD r []) (am (by omega));have cM1:=@cp;refine dE Pv (aa fL1 (aa @g0 @e2)) (aI λzb hc=> ?_);refine gG (k+1) (cs.set r (L.set (cs.getD r 0) none).length) (L.set (cs.getD r 0) none++[some (TB.getD r []++[(k:Int)+1])]) (dC fL1 aj) (dC fL1 (yQ ?_ ?_ ?_))<;>intro zb;all_goals first|(rw[q2];exact t2)|(rw[q2];done)|(rw[q2];rfl)|trace_state
  .obtain rfl:k=p.length:=by omega
   have cM1:=trivial;refine dE Pv fL1 (aI λzb hc=> ?_);refine Hg A0 (λh=>by cases h) rfl A0.len ?_;simp only[FK,FL,fu,F0,zE1,zF8,zC0];refine List.Pairwise.cons (λq hq=> ?_) (List.pairwise_singleton _ _);rw[zB7]at hq;subst hq;exact .inl (show C4≠B4 by omega)
 all_goals exact Tb.nil
theorem OT(h:i<p.length)(g:x<=p.getD i 0):f8 p x (i+1)=f8 p x i+1:=by rw[xb h,zB6 g];rfl
theorem OU(h:i<p.length)(g:¬x<=p.getD i 0):f8 p x (i+1)=f8 p x i:=by rw[xb h,zB8 g];simp[bU]
theorem ff(p q:List Int)(hl:p.length<=8)(hn:p.length=q.length):Fun Tryz.prog 259 [lI m0 p,lI m1 q] [.bool (ZU p q p.length)]:=by
 refine fO au [4] Tryz.func259 ?_;refine dE ai trivial (aD λzb=> ?_);refine ao (λ(i:Nat) S1=>(S1.e 0=.p (lI m0 p)/\S1.e 1=.p (lI m1 q)/\eI S1 10 p.length/\eI S1 11 i)/\i<=p.length/\(∀a,a<i->∀j,j<p.length->f8 p ((j:Int)+1) (a+1)<=f8 q ((j:Int)+1) (a+1))) (λi=>p.length-i) 0 ?_ (dC trivial aj);rintro i S1 ⟨fL1,A1,A0⟩;by_cases hi:i<p.length
 .refine dE ai fL1 (aI λzb hc=> ?_)
  refine ao (λ(v:Nat) S2=>(S2.e 0=.p (lI m0 p)/\S2.e 1=.p (lI m1 q)/\eI S2 10 p.length/\eI S2 11 i/\eI S2 5 i/\eI S2 15 p.length/\eI S2 16 v)/\v<=p.length/\(∀x,x<v->f8 p ((x:Int)+1) (i+1)<=f8 q ((x:Int)+1) (i+1))/\S1.n<=S2.n) (λv=>p.length-v) 0 ?_ (dC fL1 aj);rintro v S2 ⟨fL2,A6,B3,B1⟩;by_cases hv:v<p.length
  .refine dE ai fL2 (aI λzb hc=> ?_)
   refine ao (λ(a:Nat) S3=>(S3.e 0=.p (lI m0 p)/\S3.e 1=.p (lI m1 q)/\eI S3 10 p.length/\eI S3 11 i/\eI S3 5 i/\eI S3 15 p.length/\eI S3 16 v/\eI S3 6 v/\eI S3 7 ((f8 p ((v:Int)+1) a-f8 q ((v:Int)+1) a))/\eI S3 20 (((i:Int)+1))/\eI S3 21 a)/\a<=i+1/\S2.n<=S3.n) (λa=>i+1-a) 0 ?_ (dC fL2 aj);rintro a S3 ⟨fL3,G7,K6⟩;have r1:=OV (p:=p) (x:=(v:Int)+1) (i:=a);have r2:=OV (p:=q) (x:=(v:Int)+1) (i:=a);by_cases ha:a<i+1
   .by_cases h1:(v:Int)<p.getD a 0
    .have s1:=OT (p:=p) (x:=(v:Int)+1) (i:=a) (by omega) (by omega)
     by_cases h2:(v:Int)<q.getD a 0
     .have s2:=OT (p:=q) (x:=(v:Int)+1) (i:=a) (by omega) (by omega)
      refine dE ai fL3 (aI λzb hc=> ?_);exact ak (a+1) (dC fL3 aj) (dC fL3 aj);all_goals(rw[s1,s2];omega)
     .have s2:=OU (p:=q) (x:=(v:Int)+1) (i:=a) (by omega) (by omega)
      refine dE ai fL3 (aI λzb hc=> ?_);exact ak (a+1) (dC fL3 aj) (dC fL3 aj);all_goals(rw[s1,s2];omega)
    .have s1:=OU (p:=p) (x:=(v:Int)+1) (i:=a) (by omega) (by omega)
     by_cases h2:(v:Int)<q.getD a 0
     .have s2:=OT (p:=q) (x:=(v:Int)+1) (i:=a) (by omega) (by omega)
      refine dE ai fL3 (aI λzb hc=> ?_);exact ak (a+1) (dC fL3 aj) (dC fL3 aj);all_goals(rw[s1,s2];omega)
     .have s2:=OU (p:=q) (x:=(v:Int)+1) (i:=a) (by omega) (by omega)
      refine dE ai fL3 (aI λzb hc=> ?_);exact ak (a+1) (dC fL3 aj) (dC fL3 aj);all_goals(rw[s1,s2])
   .obtain rfl:a=i+1:=by omega
    by_cases hz:f8 q ((v:Int)+1) (i+1)<f8 p ((v:Int)+1) (i+1)
    .have s3:=Ud hi hv hz
     have s4:((0:Int)<f8 p ((v:Int)+1) (i+1)-f8 q ((v:Int)+1) (i+1))=True:=zF5 (by omega);refine dE ai (aa fL3 @s4) (aI λzb hc=> ?_);all_goals(rw[s3])
    .have s4:((0:Int)<f8 p ((v:Int)+1) (i+1)-f8 q ((v:Int)+1) (i+1))=False:=zC6 (by omega)
     refine dE ai (aa fL3 @s4) (aI λzb hc=> ?_);refine ak (v+1) (dC fL3 aj) (dC fL3 (aD λzb=> ?_));all_goals(intro x hx;by_cases g:x=v;(subst g;omega);exact B3 x (by omega))
  .obtain rfl:v=p.length:=by omega
   refine dE ai fL2 (aI λzb hc=> ?_);refine ak (i+1) (dC fL2 aj) (dC fL2 (aD λzb=> ?_));all_goals(intro b hb j hj;by_cases g:b=i;(subst g;exact B3 j hj);exact A0 b (by omega) j hj)
 .obtain rfl:i=p.length:=by omega
  have s5:=Lt A0;refine dE ai fL1 (aI λzb hc=> ?_);all_goals(rw[s5])
theorem qN(p q:List Int)(hp:p.length<=1048576)(hq:q.length<=1048576):Fun Tryz.prog 140 [lI m0 p,lI m1 q] [.bool (zr p q)]:=by
 cases h1:ac p with
 |false=>
  have e:zr p q=false:=by rw[zr,h1];rfl
  rw[e];refine fO au [4] Tryz.func140 ?_;have cE1:=@ae;have cE2:=@ff;exact dE ai @h1 aj
 |true=>
  have h8:p.length<=8:=by simp[ac]at h1;exact h1.1
  cases h2:ac q with
  |false=>
   have e:zr p q=false:=by rw[zr,h1,h2];rfl
   rw[e];refine fO au [4] Tryz.func140 ?_;have cE1:=@ae;have cE2:=@ff;exact dE ai (aa @h1 @h2) aj
  |true=>
   by_cases h3:p.length=q.length
   .have h4:((p.length:Int)=(q.length:Int))=True:=zF5 (by omega)
    have e:zr p q=ZU p q p.length:=by rw[zr,h1,h2,zB6 h3];rfl
    rw[e];refine fO au [4] Tryz.func140 ?_;have cE1:=@ae;have cE2:=@ff;exact dE ai (aa @h1 (aa @h2 @h4)) aj
   .have h4:((p.length:Int)=(q.length:Int))=False:=zC6 (by omega)
    have e:zr p q=false:=by rw[zr,h1,h2,zB8 h3];rfl
    rw[e];refine fO au [4] Tryz.func140 ?_;have cE1:=@ae;have cE2:=@ff;exact dE ai (aa @h1 (aa @h2 @h4)) aj
end Go.Gl
