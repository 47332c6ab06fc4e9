/-
 A program logic over the walk's rules, joined: calls, regions, pieces of code. Conditions: those that each lemma names.
-/
import Derived.Test.YtjimcmbfljdelaaGreatDoorGlD
set_option linter.unusedSimpArgs false
set_option linter.unusedVariables false
set_option linter.unusedSectionVars false
variable{h h':Nat->Go.Gl.Blk}{a v x y:Go.Gl.AV}{w:Go.World}{A F F' G G' M':Nat->Prop}{B id j k k' k1 n0 r z:Nat}{c c0 res xs ys:List Go.Gl.PV}{b m t' tk:Bool}{cs:List Go.Gl.DC}{outs rs:List (Option (List Go.Gl.PV))}{b':Go.Gl.Blk}{t:Go.TypeId}{as:List Go.Gl.Arg}{K:Go.Gl.R->Prop}{f g:Go.FuncId}{vs:List Go.Gl.AV}{caps first vals:List Go.Value}{l:List Int}{L:List (List Int)}{ops:Array Go.Oper}{no yes:Prop}{P:Go.Program}{S S':Go.Gl.St}{post:List Nat}{ws ws':List (Nat×Go.Gl.Blk)}{val:Go.Value}{tmps:Array Go.Value}
namespace Go.Gl
open Go
variable [Amb]
mutual
theorem RepP.noRo{w:World}{F G F2 G2:Nat->Prop}(H:∀B,¬F B->G B->¬F2 B/\G2 B):∀(x:PV) (v:Value),Gl.noRo x=true->RepP w F G x v->RepP w F2 G2 x v
 | .int _ _,_,_,h=>h
 | .bool _,_,_,h=>h
 | .str _,_,_,h=>h
 | .nilf,_,_,h=>h
 | .nl,_,_,h=>h
 | .any,_,hn,_=>by simp[Gl.noRo]at hn
 | .dl _,_,_,h=>by simp only[RepP]at h
 | .bx _,_,_,h=>by simp only[RepP]at h
 | .fn _ _ _,_,hn,_=>by simp[Gl.noRo]at hn
 | .pc _,_,hn,_=>by simp[Gl.noRo]at hn
 | .sl o xs,v,hn,h=>by
  simp only[RepP]at h |-
  obtain⟨a,cap,hv,hl,hm,ho,hx⟩:=h;refine⟨a,cap,hv,hl,hm,ho, ?_⟩;cases o with
  |ro=>simp[Gl.noRo]at hn
  |own=>exact .inl (ho rfl).1
  |fr=>
   simp only[Gl.noRo]at hn;rcases hx with hx|⟨B,off,ha,hF,hG,hc⟩
   .exact .inl hx
   .obtain⟨h1,h2⟩:=H B hF (hG rfl)
    exact .inr ⟨B,off,ha,h1,λ_=>h2,RepC.noRo H xs B off hn hc⟩
 | .agg xs,v,hn,h=>by
  simp only[RepP]at h |-
  simp only[Gl.noRo]at hn;obtain⟨cs,hv,hx⟩:=h;exact⟨cs,hv,RepL.noRo H xs cs hn hx⟩
theorem RepC.noRo{w:World}{F G F2 G2:Nat->Prop}(H:∀B,¬F B->G B->¬F2 B/\G2 B):∀(xs:List PV) (B o:Nat),noRoL xs=true->RepC w F G B o xs->RepC w F2 G2 B o xs
 |[],_,_,_,_=>by simp only[RepC]
 |x::xs,B,o,hn,h=>by
  simp only[noRoL,zB9]at hn;simp only[RepC]at h |-
  obtain⟨⟨v,hv,h1,hx⟩,hr⟩:=h;exact⟨⟨v,hv,h1,RepP.noRo H x v hn.1 hx⟩,RepC.noRo H xs B (o+1) hn.2 hr⟩
theorem RepL.noRo{w:World}{F G F2 G2:Nat->Prop}(H:∀B,¬F B->G B->¬F2 B/\G2 B):∀(xs:List PV) (vs:List Value),noRoL xs=true->RepL w F G xs vs->RepL w F2 G2 xs vs
 |[],_,_,h=>by grind [RepL]
 |x::xs,vs,hn,h=>by
  simp only[noRoL,zB9]at hn;simp only[RepL]at h |-
  obtain⟨v,vs',rfl,hx,hr⟩:=h;exact⟨v,vs',rfl,RepP.noRo H x v hn.1 hx,RepL.noRo H xs vs' hn.2 hr⟩
end
def Pur(h:Nat->Blk)(v:AV)(x:PV)(rd:List Nat):Prop:=
 ∀{w:World} {z:Nat} {M G:Nat->Prop} {ι:Nat->Loc} {val:Value} {F' G':Nat->Prop},HeapOk w z M G h ι->RepA w (Held h ι) G ι v val->(∀B,F' B->Held h ι B)->
  (∀id∈rd,∀B,owns (h id) (ι id) B->¬F' B)->(∀B,¬Held h ι B->G B->G' B)->RepP w F' G' x val
theorem Pur.mono{x:PV}{rd rd':List Nat}(p:Pur h v x rd)(hr:∀i∈rd,i∈rd'):Pur h v x rd':=
 λok hv h1 h2 h3=>p ok hv h1 (λid hid=>h2 id (hr id hid)) h3
theorem o9{ι:Nat->Loc}(h1:∀B,F' B->Held h ι B)(h3:∀B,¬Held h ι B->G B->G' B){o:Nat}
  (hc:RepC w (Held h ι) G B o xs):RepC w F' G' B o xs:=
 RepC.tr (λ_ _ _ hF hv=>⟨hv,λh'=>hF (h1 _ h')⟩) (λB _ hF hG=>h3 B hF hG) _ _ _ (λ_ _ hv=>hv) hc
theorem Bz{M:Nat->Prop}{ι:Nat->Loc}(ok:HeapOk w z M G h ι)(h1:∀B,F' B->Held h ι B)(h3:∀B,¬Held h ι B->G B->G' B)
  (hb:h id=.deep m cs rs) (h2:∀B,owns (h id) (ι id) B->¬F' B):RepC w F' G' (ι id).B (ι id).off (cs.map (DC.rd rs)):=by
 rw[aY];intro j x hj;rw[zA5,zG2]at hj;obtain⟨y,hy,rfl⟩:=hj;obtain⟨hn,⟨l1,l2,l3⟩,r1,_⟩:=ok.deep hb;have hlt:=(zB4.1 hy).1;rcases l3 with l3|⟨_,_,l3⟩
 .omega
 .obtain⟨v,hv,hv1,hd⟩:=l3 j y hy
  refine⟨v,hv,hv1, ?_⟩;cases y with
  |v x=>exact RepP.tr (λ_ _ _ hF hv=>⟨hv,λh'=>hF (h1 _ h')⟩) (λB _ hF hG=>h3 B hF hG) _ _ hd
  |row r=>
   simp only[DC.rd];split
   .rename_i c hr
    obtain⟨a,rfl,ha⟩:=hd.2 c hr;have hrow:=r1 r c hr;simp only[RepP];refine⟨a,_,rfl,hrow.1,hrow.2.1,(by intro e;cases e), ?_⟩;by_cases hc:c=[]
    .exact .inl hc
    .obtain⟨hrc,hcap⟩:=hrow.cells hc
     right;rcases ha with ha|ha
     .exact absurd ha hcap
     .exact⟨_,_,ha,h2 _ (by rw[hb];exact .inr ⟨r,c,hr,hcap,rfl⟩),(by intro e;cases e),o9 h1 h3 hrc⟩
   .simp only[RepP]
  |self o=>simp only[DC.rd,RepP]
theorem vF{K:PV->List Nat->Prop}(hK:mY h v K):∃x rd,K x rd/\Pur h v x rd:=by
 unfold mY at hK;split at hK
 .rename_i x
  refine⟨_,_,hK, ?_⟩;intro w z M G ι val F' G' ok hv h1 h2 h3;exact RepP.tr (λ_ _ _ hF hv=>⟨hv,λh'=>hF (h1 _ h')⟩) (λB _ hF hG=>h3 B hF hG) _ _ (go hv)
 .rename_i id off len
  have key:∀(o:Fl) c,((∃m,h id=.live m c)\/∃m,h id=.froz m c)->off+len<=c.length->(o=.ro\/∃m,o=.lent m/\h id=.froz m c)->Pur h (.ref id off len) (.sl o ((c.drop off).take len)) [id]:=by
   intro o c hb hle ho;intro w z M G ι val F' G' ok hv h1 h2 h3;obtain⟨ad,cap,rfl,hl,hcap,hm,hc⟩:=cS hv;have hlen:((c.drop off).take len).length=len:=by simp;omega
   simp only[RepP];refine⟨ad,cap,by rw[hlen],by omega,by omega, ?_, ?_⟩
   .grind [Fl.lent]
   .by_cases h0:len=0
    .grind
    .right
     rcases hc with hc|rfl
     .omega
     .have hcne:c≠[]:=by grind
      have hcells:=ok.cells hb hcne;refine⟨_,_,rfl, ?_, ?_,co (bQ (o9 h1 h3 hcells) off) len⟩
      .rcases hb with⟨m,hb⟩|⟨m,hb⟩
       .exact h2 id (by simp) _ (kf hb (by omega))
       .obtain⟨_,_,g3⟩:=ok.froz id m c hb
        grind
      .intro e
       rcases ho with rfl|⟨m,rfl,hb'⟩
       .cases e
       .obtain⟨_,_,g3⟩:=ok.froz id m c hb'
        grind [Fl.lent]
  split at hK
  .grind
  .rename_i m c hb;exact⟨_,_,hK.2,key _ c (.inr ⟨m,hb⟩) hK.1 (.inr ⟨m,rfl,hb⟩)⟩
  .rename_i m cs rs hb
   obtain⟨hle,hk⟩:=hK;refine⟨_,_,hk, ?_⟩;intro w z M G ι val F' G' ok hv h1 h2 h3;obtain⟨ad,cap,rfl,hl,hcap,hm,hc⟩:=cS hv;have hlen:(((cs.map (DC.rd rs)).drop off).take len).length=len:=by simp;omega
   simp only[RepP];refine⟨ad,cap,by rw[hlen],by omega,by omega,(by intro e;cases e), ?_⟩;by_cases h0:len=0
   .grind
   .right
    rcases hc with hc|rfl
    .omega
    .exact⟨_,_,rfl,h2 id (by simp) _ (by rw[hb];exact .inl ⟨by omega,rfl⟩),(by intro e;cases e),co (bQ (Bz ok h1 h3 hb (h2 id (by simp))) off) len⟩
  .exact hK.elim
 .rename_i id off
  have key:∀c,((∃m,h id=.live m c)\/∃m,h id=.froz m c)->Pur h (.ptr id off) (.pc (c.drop off)) [id]:=by
   intro c hb;intro w z M G ι val F' G' ok hv h1 h2 h3;simp only[RepA]at hv;simp only[RepP];refine⟨_,_,hv, ?_, ?_⟩
   .by_cases hcne:c=[]
    .left;subst hcne;simp
    .right
     rcases hb with⟨m,hb⟩|⟨m,hb⟩
     .obtain⟨g1,_,_⟩:=ok.live id m c hb
      exact h2 id (by simp) _ (kf hb (by grind [List.length_pos_iff]))
     .obtain⟨_,_,g3⟩:=ok.froz id m c hb
      grind
   .by_cases hcne:c=[]
    .subst hcne;simp[RepC]
    .exact bQ (o9 h1 h3 (ok.cells hb hcne)) off
  split at hK
  .grind
  .grind
  .rename_i m cs rs hb
   refine⟨_,_,hK, ?_⟩;intro w z M G ι val F' G' ok hv h1 h2 h3;simp only[RepA]at hv;simp only[RepP];refine⟨_,_,hv, ?_,bQ (Bz ok h1 h3 hb (h2 id (by simp))) off⟩;by_cases hcne:cs=[]
   .left;subst hcne;simp
   .right
    have hp:=List.length_pos_iff.2 hcne;obtain⟨_,⟨l1,_⟩,_⟩:=ok.deep hb;exact h2 id (by simp) _ (by rw[hb];exact .inl ⟨by omega,rfl⟩)
  .exact hK.elim
 .rename_i id r off len
  split at hK
  .rename_i m cs rs hb
   split at hK
   .rename_i c hr
    obtain⟨hle,hk⟩:=hK;refine⟨_,_,hk, ?_⟩;intro w z M G ι val F' G' ok hv h1 h2 h3;obtain⟨_,ad,cap,rfl,hl,hcap,hm,hc⟩:=iQ hv;have hlen:((c.drop off).take len).length=len:=by simp;omega
    simp only[RepP];refine⟨ad,cap,by rw[hlen],by omega,by omega,(by intro e;cases e), ?_⟩;by_cases h0:len=0
    .grind
    .right
     rcases hc with hc|rfl
     .omega
     .obtain⟨_,hrow⟩:=ok.deepRow hb hr
      obtain⟨hrc,hcap0⟩:=hrow.cells (by grind);exact⟨_,_,rfl,h2 id (by simp) _ (by rw[hb];exact .inr ⟨r,c,hr,hcap0,rfl⟩),(by intro e;cases e),co (bQ (o9 h1 h3 hrc) off) len⟩
   .exact hK.elim
  .exact hK.elim
 .exact hK.elim
theorem lF{h:Nat->Blk}:∀{vs:List AV} {K:List PV->List Nat->Prop},gH h vs K->∃xs rd,K xs rd/\
  ∀{w:World} {z:Nat} {M G:Nat->Prop} {ι:Nat->Loc} {vals:List Value} {F' G':Nat->Prop},HeapOk w z M G h ι->RepAL w (Held h ι) G ι vs vals->(∀B,F' B->Held h ι B)->
  (∀id∈rd,∀B,owns (h id) (ι id) B->¬F' B)->(∀B,¬Held h ι B->G B->G' B)->RepL w F' G' xs vals
 |[],K,hK=>⟨[],[],hK,λ_ hv _ _ _=>by grind [RepAL,RepL]⟩
 |v::vs,K,hK=>by
  simp only[gH]at hK;obtain⟨x,rd,hK,hp⟩:=vF hK;obtain⟨xs,rd',hK,hps⟩:=lF hK;refine⟨x::xs,rd++rd',hK, ?_⟩;intro w z M G ι vals F' G' ok hv h1 h2 h3;simp only[RepAL]at hv;obtain⟨u,us,rfl,hu,hus⟩:=hv;simp only[RepL];exact⟨u,us,rfl,hp ok hu h1 (λid hid=>h2 id (by simp[hid])) h3,hps ok hus h1 (λid hid=>h2 id (by simp[hid])) h3⟩
theorem HR{K:PV->List Nat->Prop}(hK:Ej h v K):∃x rd,K x rd/\Pur h v x rd:=by
 unfold Ej at hK;split at hK
 .rename_i xs
  obtain⟨ys,rd,hk,hp⟩:=lF hK;refine⟨_,_,hk, ?_⟩;intro w z M G ι val F' G' ok hv h1 h2 h3;grind [RepA,RepP]
 .rename_i f first caps
  obtain⟨ys,rd,hk,hp⟩:=lF hK;obtain⟨zs,rd',hk,hp'⟩:=lF hk;refine⟨_,_,hk, ?_⟩;intro w z M G ι val F' G' ok hv h1 h2 h3;grind [RepA,RepP]
 .exact vF hK
def rj(h:Nat->Blk)(v:AV)(a:Arg)(m:Option (Nat×Option Nat))(rd:List Nat):Prop:=
 (∃x,a=.pv x/\m=none/\Pur h v x rd)\/(∃c id b,a=.mu false c/\m=some (id,none)/\v=.ref id 0 c.length/\h id=.live b c)\/(∃c id b,a=.mu true c/\m=some (id,none)/\v=.ptr id 0/\h id=.live b c)\/
 (∃rows id b,a=.mu false [.dl rows]/\m=some (id,none)/\v=.ref id 0 rows.length/\h id=.deep b (canon rows.length) (rows.map some))\/
 (∃c id r b cs rs,a=.mu false c/\m=some (id,some r)/\v=.inn id r 0 c.length/\h id=.deep b cs rs/\rs[r]? =some (some c))\/
 (∃rows id b,a=.mu false [.dl rows]/\m=some (id,some (rows.length+rows.length))/\v=.ref id 0 rows.length/\0<rows.length/\h id=.deep b (canonS rows.length) (List.replicate rows.length none++rows.map some))
theorem Ep:∀{vs:List AV} {sg:List Bool} {K:List Arg->List Nat->List (Option (Nat×Option Nat))->Prop},pass h sg vs K->
  ∃as rd ms,K as rd ms/\as.length=vs.length/\ms.length=vs.length/\∀(j:Nat) (v:AV) (a:Arg) (m:Option (Nat×Option Nat)),vs[j]? =some v->as[j]? =some a->ms[j]? =some m->rj h v a m rd:=by
 intro vs
 induction vs with
 |nil=>
  grind [pass]
 |cons v vs ih=>
  intro sg K hK;have mono:∀{v:AV} {a:Arg} {m:Option (Nat×Option Nat)} {rd rd':List Nat},rj h v a m rd->(∀i∈rd,i∈rd')->rj h v a m rd':=by
   intro v a m rd rd' h0 hr;rcases h0 with⟨x,e1,e2,p⟩|h0
   .exact .inl ⟨x,e1,e2,p.mono hr⟩
   .exact .inr h0
  have step:∀{v:AV} {a:Arg} {m:Option (Nat×Option Nat)} {as rd rd' ms},rj h v a m rd->(∀i∈rd,i∈rd')->(∀(j:Nat) (v:AV) (a:Arg) (m:Option (Nat×Option Nat)),vs[j]? =some v->as[j]? =some a->ms[j]? =some m->rj h v a m rd')->
    ∀(j:Nat) (v':AV) (a':Arg) (m':Option (Nat×Option Nat)),(v::vs)[j]? =some v'->(a::as)[j]? =some a'->(m::ms)[j]? =some m'->rj h v' a' m' rd':=by
   grind
  have plain:∀sg':List Bool,Ej h v (λx rd=>pass h sg' vs λas rd' ms=>K (.pv x::as) (rd++rd') (none::ms))->
    ∃as rd ms,K as rd ms/\as.length=(v::vs).length/\ms.length=(v::vs).length/\∀(j:Nat) (v':AV) (a:Arg) (m:Option (Nat×Option Nat)),(v::vs)[j]? =some v'->as[j]? =some a->ms[j]? =some m->rj h v' a m rd:=by
   intro sg' hp;obtain⟨x,rd,hp,hx⟩:=HR hp;obtain⟨as,rd',ms,hk,l1,l2,hs⟩:=ih hp;refine⟨_,_,_,hk,by simp[l1],by simp[l2],step (.inl ⟨x,rfl,rfl,hx⟩) (λi hi=>zB3.2 (.inl hi)) λj v a m h1 h2 h3=> ?_⟩;grind
  cases sg with
  |nil=>exact plain [] (by grind [pass])
  |cons b sg=>
   cases b with
   |false=>exact plain sg (by grind [pass])
   |true=>
    simp only[pass]at hK;split at hK
    .rename_i id len
     split at hK
     .rename_i b c hb
      obtain⟨hlen,hK⟩:=hK;obtain⟨as,rd,ms,hk,l1,l2,hs⟩:=ih hK;exact⟨_,_,_,hk,by simp[l1],by simp[l2],step (.inr (.inl ⟨c,id,b,rfl,rfl,by rw[hlen],hb⟩)) (λi hi=>hi) hs⟩
     .rename_i b cs rs hb
      rcases hK with⟨rows,e1,e2,hlen,hK⟩|⟨rows,h0,e1,e2,hlen,hK⟩
      .obtain⟨as,rd,ms,hk,l1,l2,hs⟩:=ih hK
       exact⟨_,_,_,hk,by simp[l1],by simp[l2],step (.inr (.inr (.inr (.inl ⟨rows,id,b,rfl,rfl,by rw[hlen],by rw[hb,e1,e2]⟩)))) (λi hi=>hi) hs⟩
      .obtain⟨as,rd,ms,hk,l1,l2,hs⟩:=ih hK
       exact⟨_,_,_,hk,by simp[l1],by simp[l2],step (.inr (.inr (.inr (.inr (.inr ⟨rows,id,b,rfl,rfl,by rw[hlen],h0,by rw[hb,e1,e2]⟩))))) (λi hi=>hi) hs⟩
     .exact hK.elim
    .rename_i id
     split at hK
     .rename_i b c hb
      obtain⟨as,rd,ms,hk,l1,l2,hs⟩:=ih hK;exact⟨_,_,_,hk,by simp[l1],by simp[l2],step (.inr (.inr (.inl ⟨c,id,b,rfl,rfl,rfl,hb⟩))) (λi hi=>hi) hs⟩
     .exact hK.elim
    .rename_i id r len
     split at hK
     .rename_i b cs rs hb
      split at hK
      .rename_i c hr
       obtain⟨hlen,hK⟩:=hK;obtain⟨as,rd,ms,hk,l1,l2,hs⟩:=ih hK;exact⟨_,_,_,hk,by simp[l1],by simp[l2],step (.inr (.inr (.inr (.inr (.inl ⟨c,id,r,b,cs,rs,rfl,rfl,by rw[hlen],hb,hr⟩))))) (λi hi=>hi) hs⟩
      .exact hK.elim
     .exact hK.elim
    .obtain⟨as,rd,ms,hk,l1,l2,hs⟩:=ih hK
     have hp:Pur h (.p (.sl .own [])) (.sl .own []) []:=by
      intro w z M G ι val F' G' ok hv h1 h2 h3;exact RepP.tr (λ_ _ _ hF hv=>⟨hv,λh'=>hF (h1 _ h')⟩) (λB _ hF hG=>h3 B hF hG) _ _ (by grind [RepA])
     exact⟨_,_,_,hk,by simp[l1],by simp[l2],step (rd:=[]) (.inl ⟨_,rfl,rfl,hp⟩) (λi hi=>by simp at hi) hs⟩
    .exact hK.elim
theorem wW:∀(as:List Arg) (j i:Nat),(bA j as)[i]? =(as[i]?).map (Arg.av (j+i))
 |[],_,_=>by simp[bA]
 |a::as,j,i=>by
  cases i with
  |zero=>simp[bA]
  |succ i=>simp only[bA,zG5];rw[wW as (j+1) i,show j+1+i=j+(i+1)from by omega]
theorem dr:∀(as:List Arg) (j:Nat),(bA j as).length=as.length
 |[],_=>rfl
 |a::as,j=>by simp[bA,dr as (j+1)]
def shift(k:Nat)(l:List (Nat×Blk)):List (Nat×Blk):=l.map λp=>(k+p.1,p.2)
theorem Qa(k:Nat)(l m:List (Nat×Blk)):shift k (l++m)=shift k l++shift k m:=by simp[shift]
theorem Uc(k i:Nat)(l:List (Nat×Blk)):shift k (shift i l)=shift (k+i) l:=by simp[shift,zE9]
theorem Cx(m:Bool)(k:Nat)(x:PV):impW1 m k x=shift k (impW1 m 0 x):=by
 unfold impW1;split<;>simp[shift]
theorem tQ(m:Bool):∀(xs:List PV) (k:Nat),impWL m k xs=shift k (impWL m 0 xs)
 |[],k=>by simp[impWL,shift]
 |x::xs,k=>by
  simp only[impWL];rw[Qa,<-Cx,tQ m xs (k+1),tQ m xs (0+1),Uc];try simp
theorem Ym(m:Bool)(k:Nat)(x:PV):impW m k x=shift k (impW m 0 x):=by
 cases x<;>simp only[impW]<;>first|exact Cx m k _|(rw[tQ m _ (k+1),tQ m _ (0+1),Uc];try simp)
theorem jG(m:Bool):∀(xs:List PV) (k:Nat),impWs m k xs=shift k (impWs m 0 xs)
 |[],k=>by simp[impWs,shift]
 |x::xs,k=>by
  simp only[impWs];rw[Qa,<-Ym,jG m xs (k+16),jG m xs (0+16),Uc];try simp
theorem Cy{x:PV}:∀p∈impW1 m 0 x,p.1=0:=by
 unfold impW1;split<;>simp
theorem Cw{m:Bool}:∀{xs:List PV},∀p∈impWL m 0 xs,p.1<xs.length
 |[],p,hp=>by simp[impWL]at hp
 |x::xs,p,hp=>by
  simp only[impWL,zB3]at hp;rcases hp with hp|hp
  .grind [Cy]
  .rw[tQ]at hp
   simp only[shift,zD0]at hp;obtain⟨q,hq,rfl⟩:=hp;have:=Cw q hq;simp;omega
theorem Sp{x:PV}(h:iO x=true):∀p∈impW m 0 x,p.1<16:=by
 intro p hp;cases x with
 |agg xs=>
  simp only[impW]at hp;simp[iO]at h;rw[tQ]at hp;simp only[shift,zD0]at hp;obtain⟨q,hq,rfl⟩:=hp;have:=Cw q hq;simp;omega
 |_=>grind [impW,Cy]
theorem acy{m:Bool}:∀{xs:List PV},xs.all iO=true->∀p∈impWs m 0 xs,p.1<16*xs.length
 |[],_,p,hp=>by simp[impWs]at hp
 |x::xs,h,p,hp=>by
  simp only[zH7,zB9]at h;simp only[impWs,zB3]at hp;rcases hp with hp|hp
  .grind [Sp]
  .rw[jG]at hp
   simp only[shift,zD0]at hp;obtain⟨q,hq,rfl⟩:=hp;have:=acy h.2 q hq;simp;omega
theorem Iy(h:jA res=true):∀p∈impWs m 0 res,p.1<256:=by
 unfold jA at h;simp only[zB9,zC2]at h;intro p hp;have:=acy h.2 p hp;omega
def DC.noRo:DC->Bool
 | .v x=>Gl.noRo x
 |_=>true
def gm:Blk->Bool
 | .live _ c=>noRoL c
 | .deep _ cs rs=>cs.all DC.noRo&&rs.all λ|some c=>noRoL c|none=>true
 | .map _ _ _=>false
 |_=>true
def DB(m:Bool)(b:Blk):Prop:=(∃c,b=.live m c)\/∃cs rs,b=.deep m cs rs
theorem wO(n:Nat):(canon n).all DC.noRo=true:=by
 rw[zC8];intro x hx;simp only[canon,zD0]at hx;obtain⟨r,_,rfl⟩:=hx;rfl
theorem sY:∀{rows:List (List PV)},noRoLL rows=true->(rows.map some).all (λ|some c=>noRoL c|none=>true)=true
 |[],_=>rfl
 |x::rows,h=>by
  simp only[noRoLL,zB9]at h;simp only[zC3,zH7,h.1,sY h.2,Bool.and_self]
theorem EN:∀{xs:List PV} {k:Nat},∀p∈impWs m k xs,DB m p.2/\(noRoL xs=true->gm p.2=true):=by
 have one:∀(x:PV) (k:Nat),∀p∈impW1 m k x,DB m p.2/\(noRo x=true->gm p.2=true):=by
  intro x k p hp;unfold impW1 at hp;split at hp
  .rename_i ys;simp at hp;subst hp;exact⟨.inl ⟨ys,rfl⟩,λh=>by grind [noRo,gm]⟩
  .rename_i rows;simp at hp;subst hp
   exact⟨.inr ⟨_,_,rfl⟩,λh=>by grind [noRo,gm,wO,sY]⟩
  .rename_i ys;simp at hp;subst hp;exact⟨.inl ⟨ys,rfl⟩,λh=>by grind [noRo,gm]⟩
  .simp at hp
 have list:∀(xs:List PV) (k:Nat),∀p∈impWL m k xs,DB m p.2/\(noRoL xs=true->gm p.2=true):=by
  intro xs
  induction xs with
  |nil=>grind [impWL]
  |cons x xs ih=>
   grind [impWL,noRoL]
 intro xs
 induction xs with
 |nil=>grind [impWs]
 |cons x xs ih=>
  intro k p hp;simp only[impWs,zB3]at hp;rcases hp with hp|hp
  .have:DB m p.2/\(noRo x=true->gm p.2=true):=by
    cases x with
    |agg ys=>
     grind [impW,noRo]
    |_=>grind [impW]
   grind [noRoL]
  grind [noRoL]
theorem ER{x:Nat}:∀{l:List (Nat×Blk)},h (k+x)=h' (k'+x)->hwsH h (shift k l) (k+x)=hwsH h' (shift k' l) (k'+x):=by
 intro l
 induction l generalizing h h' with
 |nil=>intro e;exact e
 |cons p l ih=>
  intro e;obtain⟨i,b⟩:=p;simp only[shift,zC3,hwsH];refine ih ?_;grind
theorem qU:∀{l:List (Nat×Blk)} {i:Nat},hwsH h l i=h i\/∃b,(i,b)∈l/\hwsH h l i=b:=by
 intro l
 induction l generalizing h with
 |nil=>intro i;exact .inl rfl
 |cons p l ih=>
  intro i;obtain⟨j,b⟩:=p;simp only[hwsH];grind
theorem mC{ms:List (Option (Nat×Option Nat))}:db (none::ms)=db ms:=by simp[db]
theorem kg{ms:List (Option (Nat×Option Nat))}{p:Nat×Option Nat}:db (some p::ms)=p.1::db ms:=by simp[db]
theorem iu{h g:Nat->Blk}{outs:List (Option (List PV))}:∀{ms:List (Option (Nat×Option Nat))} {j0 id:Nat},id∉db ms->hwsH g (fo h outs j0 ms) id=g id
 |[],_,_,_=>rfl
 |none::ms,j0,id,hn=>by
  simp only[fo];exact iu (by rwa [mC]at hn)
 |some (i,q)::ms,j0,id,hn=>by
  simp only[fo,hwsH];have hn':id≠i/\id∉db ms:=by grind [kg]
  rw[iu hn'.2];simp[hn'.1]
theorem LX{h:Nat->Blk}{outs:List (Option (List PV))}:∀{ms:List (Option (Nat×Option Nat))} {g:Nat->Blk} {j0 j id:Nat} {q:Option Nat},(db ms).Nodup->ms[j]? =some (some (id,q))->
  hwsH g (fo h outs j0 ms) id=gi q outs[j0+j]? (h id)
 |[],g,j0,j,id,q,_,hj=>by simp at hj
 |none::ms,g,j0,j,id,q,hn,hj=>by
  simp only[fo];cases j with
  |zero=>simp at hj
  |succ j=>
   rw[LX (j:=j) (by rwa [mC]at hn) (by simpa using hj),show j0+1+j=j0+(j+1)from by omega]
 |some (i,q')::ms,g,j0,j,id,q,hn,hj=>by
  simp only[fo,hwsH];have hn':i∉db ms/\(db ms).Nodup:=by grind [kg]
  cases j with
  |zero=>
   grind [iu]
  |succ j=>
   rw[LX (j:=j) hn'.2 (by simpa using hj),show j0+1+j=j0+(j+1)from by omega]
theorem okB.noRo{F2 G2:Nat->Prop}{O O2:Bool->Nat->Prop}(H:∀B,¬F B->G B->¬F2 B/\G2 B){b:Blk}{l:Loc}(hn:gm b=true)(hf:∀m c,b≠ .froz m c)(hO:∀m B,DB m b->owns b l B->O m B->O2 m B)(h:okB w F G O b l):okB w F2 G2 O2 b l:=by
 cases b with
 |live m c=>
  obtain⟨h1,h2,h3⟩:=h;refine⟨h1,h2, ?_⟩;by_cases h0:l.cap=0
  .exact .inl h0
  .rcases h3 with h3|⟨q1,q2,q3⟩
   .exact absurd h3 h0
   .exact .inr ⟨q1,RepC.noRo H _ _ _ hn q2,hO m _ (.inl ⟨c,rfl⟩) ⟨h0,rfl⟩ q3⟩
 |froz m c=>grind
 |deep m cs rs=>
  simp only[gm,zB9,zC8]at hn;obtain⟨n1,⟨l1,l2,l3⟩,r1,d1,b1⟩:=h;refine⟨n1,⟨l1,l2, ?_⟩,λr c hr=> ?_,d1,b1⟩
  .by_cases h0:l.cap=0
   .exact .inl h0
   .rcases l3 with l3|⟨q1,q2,q3⟩
    .exact absurd l3 h0
    .refine .inr ⟨q1,hO m _ (.inr ⟨_,_,rfl⟩) (.inl ⟨h0,rfl⟩) q2,λj x hj=> ?_⟩
     obtain⟨v,v1,v2,v3⟩:=q3 j x hj;refine⟨v,v1,v2, ?_⟩;cases x with
     |v x=>exact RepP.noRo H x v (hn.1 _ (zF9 hj)) v3
     |row r=>exact v3
     |self o=>exact v3
  .obtain⟨g1,g2,g3⟩:=r1 r c hr
   refine⟨g1,g2, ?_⟩;by_cases h0:(l.sub r).cap=0
   .exact .inl h0
   .rcases g3 with g3|⟨q1,q2,q3⟩
    .exact absurd g3 h0
    .exact .inr ⟨q1,RepC.noRo H _ _ _ (hn.2 _ (zF9 hr)) q2,hO m _ (.inr ⟨_,_,rfl⟩) (.inr ⟨r,c,hr,h0,rfl⟩) q3⟩
 |map m kt es=>simp[gm]at hn
 |dead=>trivial
def RF(b b':Blk):Prop:=b=b'\/(∃m m' c,b=.live m c/\b'=.live m' c)\/∃m m' cs rs,b=.deep m cs rs/\b'=.deep m' cs rs
theorem RF.owns{b:Blk}(h:RF b b'){l:Loc}:owns b l B↔Gl.owns b' l B:=by
 rcases h with rfl|⟨m,m',c,rfl,rfl⟩|⟨m,m',cs,rs,rfl,rfl⟩
 .exact Iff.rfl
 .exact Iff.rfl
 .exact Iff.rfl
theorem RF.ok{b:Blk}(h:RF b b')(hb:DB t' b'){X:Nat->Prop}{O:Bool->Nat->Prop}(hX:∀B,X B->O t' B){l:Loc}(ok:okB w F G (λ_=>X) b l):okB w F G O b' l:=by
 have key:∀b1:Blk,DB t' b1->okB w F G (λ_=>X) b1 l->okB w F G O b1 l:=by
  intro b1 hf ok1;cases b1 with
  |live m c=>
   obtain rfl:m=t':=by rcases hf with⟨_,e⟩|⟨_,_,e⟩<;>cases e;rfl
   obtain⟨h1,h2,h3⟩:=ok1;exact⟨h1,h2,h3.imp_right λ⟨q1,q2,q3⟩=>⟨q1,q2,hX _ q3⟩⟩
  |froz m c=>rcases hf with⟨_,e⟩|⟨_,_,e⟩<;>cases e
  |deep m cs rs=>
   obtain rfl:m=t':=by rcases hf with⟨_,e⟩|⟨_,_,e⟩<;>cases e;rfl
   obtain⟨n1,⟨l1,l2,l3⟩,r1,d1,b1⟩:=ok1;refine⟨n1,⟨l1,l2,l3.imp_right λ⟨q1,q2,q3⟩=>⟨q1,hX _ q2,q3⟩⟩,λr c hr=> ?_,d1,b1⟩;obtain⟨g1,g2,g3⟩:=r1 r c hr;exact⟨g1,g2,g3.imp_right λ⟨q1,q2,q3⟩=>⟨q1,q2,hX _ q3⟩⟩
  |map m kt es=>rcases hf with⟨_,e⟩|⟨_,_,e⟩<;>cases e
  |dead=>trivial
 refine key b' hb ?_;rcases h with rfl|⟨m,m',c,rfl,rfl⟩|⟨m,m',cs,rs,rfl,rfl⟩
 .exact ok
 .exact ok
 .exact ok
def RFL:List (Nat×Blk)->List (Nat×Blk)->Prop
 |[],[]=>True
 |p::l,q::l'=>p.1=q.1/\RF p.2 q.2/\RFL l l'
 |_,_=>False
theorem RFL.app:∀{a a' b b':List (Nat×Blk)},RFL a a'->RFL b b'->RFL (a++b) (a'++b')
 |[],[],_,_,_,h=>h
 |_::_,_::_,_,_,⟨h1,h2,h3⟩,h=>⟨h1,h2,RFL.app h3 h⟩
 |[],_::_,_,_,h,_=>h.elim
 |_::_,[],_,_,h,_=>h.elim
theorem RFL.hws:∀{l l':List (Nat×Blk)} {h h':Nat->Blk},RFL l l'->(∀j,RF (h j) (h' j))->∀j,RF (hwsH h l j) (hwsH h' l' j)
 |[],[],_,_,_,hh,j=>hh j
 |(i,b)::l,(i',b')::l',h,h',⟨h1,h2,h3⟩,hh,j=>by
  simp only at h1 h2;subst h1;refine RFL.hws h3 (λj=> ?_) j;grind
 |[],_::_,_,_,h,_,_=>h.elim
 |_::_,[],_,_,h,_,_=>h.elim
theorem impWs_rf{m':Bool}:∀{xs:List PV} {k:Nat},RFL (impWs m k xs) (impWs m' k xs):=by
 have one:∀(x:PV) (k:Nat),RFL (impW1 m k x) (impW1 m' k x):=by
  intro x k;unfold impW1;split
  .exact⟨rfl,.inr (.inl ⟨_,_,_,rfl,rfl⟩),trivial⟩
  .exact⟨rfl,.inr (.inr ⟨_,_,_,_,rfl,rfl⟩),trivial⟩
  .exact⟨rfl,.inr (.inl ⟨_,_,_,rfl,rfl⟩),trivial⟩
  .trivial
 have list:∀(xs:List PV) (k:Nat),RFL (impWL m k xs) (impWL m' k xs):=by
  intro xs
  induction xs with
  |nil=>intro k;trivial
  |cons x xs ih=>intro k;exact(one x k).app (ih _)
 intro xs
 induction xs with
 |nil=>intro k;trivial
 |cons x xs ih=>
  intro k;simp only[impWs];refine RFL.app ?_ ih;cases x with
  |agg ys=>grind [impW]
  |_=>grind [impW]
theorem BB{t:Bool}(j:Nat):RF (aZ t as outs res j) (aZ t' as outs res j):=
 impWs_rf.hws (λ_=>.inl rfl) j
theorem dK(h:∀rows,c≠[.dl rows]):xx m c=.live m c:=by
 simp_all [xx,absurd]
theorem wa(h:∀rows,c≠[.dl rows]):xy c=c.length:=by
 simp_all [xy,absurd]
theorem rowOk.plain{O:Nat->Prop}{l:Loc}(h:rowOk w F G O l c):∀rows,c≠[.dl rows]:=by
 rintro rows rfl;obtain⟨hc,_⟩:=h.cells (by simp);grind [RepC,RepP]
section imports
variable {w:World}{F F2 G G2:Nat->Prop}{ι ι2:Nat->Loc}
theorem CB(H:∀B,¬F B->G B->¬F2 B/\G2 B){n:Nat}(hι:ι2 k=ι n){x:PV}(hn:noRo x=true){v:Value}(h:RepA w F G ι (imp1 n x) v):RepA w F2 G2 ι2 (imp1 k x) v:=by
 have plain:RepA w F G ι (.p x) v->RepA w F2 G2 ι2 (.p x) v:=λh=>by
  grind [RepA,RepP.noRo]
 cases x with
 |sl o xs=>
  cases o with
  |own=>
   grind [imp1,RepA]
  |ro=>exact plain h
  |fr=>exact plain h
 |dl rows=>grind [imp1,RepA]
 |bx xs=>grind [imp1,RepA]
 |_=>exact plain h
theorem Cz(H:∀B,¬F B->G B->¬F2 B/\G2 B):∀{xs:List PV} {n k:Nat},(∀x,x<xs.length->ι2 (k+x)=ι (n+x))->noRoL xs=true->∀{vs:List Value},RepAL w F G ι (impL n xs) vs->RepAL w F2 G2 ι2 (impL k xs) vs
 |[],_,_,_,_,_,h=>by grind [impL,RepAL]
 |x::xs,n,k,hι,hn,vs,h=>by
  simp only[noRoL,zB9]at hn;simp only[impL,RepAL]at h |-
  obtain⟨v,vs',rfl,h1,h2⟩:=h;refine⟨v,vs',rfl,CB H (by simpa using hι 0 (by simp)) hn.1 h1,Cz H (λy hy=> ?_) hn.2 h2⟩;rw[show k+1+y=k+(y+1)from by omega,show n+1+y=n+(y+1)from by omega];exact hι (y+1) (by simpa using hy)
theorem GT(H:∀B,¬F B->G B->¬F2 B/\G2 B){n:Nat}(hι:∀x,x<16->ι2 (k+x)=ι (n+x)){x:PV}(hn:noRo x=true)(hs:iO x=true){v:Value}(h:RepA w F G ι (imp n x) v):RepA w F2 G2 ι2 (imp k x) v:=by
 cases x with
 |agg xs=>
  simp only[imp,RepA]at h |-
  simp[iO]at hs;obtain⟨cs,hv,hl⟩:=h;refine⟨cs,hv,Cz H (λy hy=> ?_) (by simpa[noRo]using hn) hl⟩;rw[show k+1+y=k+(y+1)from by omega,show n+1+y=n+(y+1)from by omega];exact hι (y+1) (by omega)
 |_=>simp only[imp]at h |-;exact CB H (by simpa using hι 0 (by omega)) hn h
theorem Cs(H:∀B,¬F B->G B->¬F2 B/\G2 B):∀{xs:List PV} {n k:Nat},(∀x,x<16*xs.length->ι2 (k+x)=ι (n+x))->noRoL xs=true->xs.all iO=true->
  ∀{vs:List Value},RepAL w F G ι (imps n xs) vs->RepAL w F2 G2 ι2 (imps k xs) vs
 |[],_,_,_,_,_,_,h=>by grind [imps,RepAL]
 |x::xs,n,k,hι,hn,hs,vs,h=>by
  simp only[noRoL,zB9]at hn;simp only[zH7,zB9]at hs;simp only[imps,RepAL]at h |-
  obtain⟨v,vs',rfl,h1,h2⟩:=h;refine⟨v,vs',rfl,GT H (λy hy=>hι y (by simp;omega)) hn.1 (by simpa using hs.1) h1,Cs H (λy hy=> ?_) hn.2 hs.2 h2⟩;rw[show k+16+y=k+(y+16)from by omega,show n+16+y=n+(y+16)from by omega];exact hι (y+16) (by simp;omega)
theorem EO(H:∀B,¬F B->G B->¬F2 B/\G2 B){n:Nat}(hι:∀x,x<256->ι2 (k+x)=ι (n+x))(hn:noRoL res=true)(hs:jA res=true){v:Value}(h:RepA w F G ι (impAll n res) v):RepA w F2 G2 ι2 (impAll k res) v:=by
 simp only[jA,zB9,zC2]at hs;have tup:RepA w F G ι (.tup (imps n res)) v->RepA w F2 G2 ι2 (.tup (imps k res)) v:=by
  grind [RepA,Cs]
 match res,hn,hs,h,tup with
 |[],_,_,h,tup=>exact tup h
 |[x],hn,hs,h,_=>
  simp only[noRoL,zG1]at hn;simp only[zH7,List.all_nil,zG1]at hs;exact GT H (λy hy=>hι y (by omega)) hn (by simpa using hs.2) h
 |x::y::zs,_,_,h,tup=>exact tup h
theorem CC{i:Nat}{x:PV}(h:(imp1 k x).has i=true):i=k:=by
 unfold imp1 at h;grind [AV.has]
theorem CA:∀{xs:List PV} {k i:Nat},AV.hasL (impL k xs) i=true->k<=i/\i<k+xs.length
 |[],_,_,h=>by simp[impL,AV.hasL]at h
 |x::xs,k,i,h=>by
  simp only[impL,AV.hasL,zI8]at h;rcases h with h|h
  .grind [CC]
  .have:=CA h;simp;omega
theorem aeu{i:Nat}{x:PV}(hs:iO x=true)(h:(imp k x).has i=true):k<=i/\i<k+16:=by
 cases x with
 |agg xs=>simp only[imp,AV.has]at h;simp[iO]at hs;have:=CA h;omega
 |_=>grind [imp,CC]
theorem Ct:∀{xs:List PV} {k i:Nat},xs.all iO=true->AV.hasL (imps k xs) i=true->k<=i/\i<k+16*xs.length
 |[],_,_,_,h=>by simp[imps,AV.hasL]at h
 |x::xs,k,i,hs,h=>by
  simp only[zH7,zB9]at hs;simp only[imps,AV.hasL,zI8]at h;rcases h with h|h
  .have:=aeu (x:=x) (by simpa using hs.1) h;simp;omega
  .have:=Ct hs.2 h;simp;omega
theorem EP{i:Nat}(hs:jA res=true)(h:(impAll k res).has i=true):k<=i/\i<k+256:=by
 simp only[jA,zB9,zC2]at hs
 match res,hs,h with
 |[],_,h=>simp[impAll,imps,AV.has,AV.hasL]at h
 |[x],hs,h=>
  simp only[zH7,List.all_nil,zG1]at hs;have:=aeu (x:=x) (by simpa using hs.2) h;omega
 |x::y::zs,hs,h=>
  simp only[impAll,AV.has]at h;have:=Ct hs.2 h;omega
end imports
section
variable {P:Program}{sg:FuncId->List Bool}{w0:World}{nA nt:Nat}{M G:Nat->Prop}{ι0:Nat->Loc}{A:Nat->Prop}{w:World}{S:St}{ι:Nat->Loc}{a:Act}
variable [AmbOk w0 M]
theorem lids_mem{ms:List (Option (Nat×Option Nat))}{i:Nat}:i∈db ms↔∃(j:Nat) (q:Option Nat),ms[j]? =some (some (i,q)):=by
 simp only[db,List.mem_filterMap];constructor
 .rintro⟨m,hm,he⟩
  obtain⟨j,hj⟩:=List.getElem?_of_mem hm;cases m with
  |none=>simp at he
  |some p=>grind
 .rintro⟨j,q,hj⟩
  exact⟨_,zF9 hj,rfl⟩
theorem rZ{ms:List (Option (Nat×Option Nat))}(hn:(db ms).Nodup){i:Nat}{q q':Option Nat}(hi:ms[i]? =some (some (id,q)))(hj:ms[j]? =some (some (id,q'))):i=j:=by
 induction ms generalizing i j with
 |nil=>simp at hi
 |cons m ms ih=>
  cases m with
  |none=>
   grind [mC]
  |some p=>
   grind [kg,lids_mem]
inductive Lent (h:Nat->Blk) (ι:Nat->Loc) (id:Nat):Option Nat->Arg->Loc->Prop
 |whole {b:Bool} {c:List PV} {p:Bool} (hb:h id=.live b c) (hp:∀rows,c≠[.dl rows]):Lent h ι id none (.mu p c) (ι id)
 |rows {b:Bool} {rows:List (List PV)} (hb:h id=.deep b (canon rows.length) (rows.map some)):Lent h ι id none (.mu false [.dl rows]) (ι id)
 |inner {b:Bool} {cs:List DC} {rs:List (Option (List PV))} {r:Nat} {c:List PV} (hb:h id=.deep b cs rs) (hr:rs[r]? =some (some c)) (hp:∀rows,c≠[.dl rows]):Lent h ι id (some r) (.mu false c) ((ι id).sub r)
 |shift {b:Bool} {rows:List (List PV)} (h0:0<rows.length) (hb:h id=.deep b (canonS rows.length) (List.replicate rows.length none++rows.map some)):Lent h ι id (some (rows.length+rows.length)) (.mu false [.dl rows]) ((ι id).shL rows.length)
theorem kc{rows:List (List PV)}(h:(rows.map some)[r]? =some (some c)):(List.replicate rows.length none++rows.map some)[rows.length+r]? =some (some c):=by
 grind
theorem wP{n:Nat}:(canonS n)[j]? =if j<n then some (.row (n+j))else none:=by
 grind [canonS]
theorem vN(h:¬r<rs.length):∀{o:Option (Option (List PV))},gi (some r) o (.deep b cs rs)=.dead
 |none=>zA8 h
 |some none=>zA8 h
 |some (some [])=>zA8 h
 |some (some [x])=>by cases x<;>exact zA8 h
 |some (some (x::_::_))=>by cases x<;>exact zA8 h
theorem Gt(h:r<rs.length):gi (some r) none (.deep b cs rs)=.deep b cs (rs.set r none)/\gi (some r) (some none) (.deep b cs rs)=.deep b cs (rs.set r none)/\∀rows,gi (some r) (some (some [.dl rows])) (.deep b cs rs)=.deep b cs (rs.set r none):=
 ⟨by grind [gi],by grind [gi],λrows=>by grind [gi]⟩
theorem Lent.owns{ι:Nat->Loc}{q:Option Nat}{arg:Arg}{l:Loc}(L:Lent h ι id q arg l)(hj:as[j]? =some arg)(ho:Gl.owns (bH as j) l B):Gl.owns (h id) (ι id) B:=by
 cases L with
 |whole hb hp=>
  rename_i b c p;have:bH as j=.live true c:=by grind [bH,dK]
  rw[this]at ho;rw[hb];exact ho
 |rows hb=>
  rename_i b rows;have:bH as j=.deep true (canon rows.length) (rows.map some):=by unfold bH;rw[hj];rfl
  rw[this]at ho;rw[hb];exact ho
 |inner hb hr hp=>
  rename_i b cs rs r c;have:bH as j=.live true c:=by grind [bH,dK]
  rw[this]at ho;rw[hb];exact .inr ⟨_,_,hr,ho⟩
 |shift h0 hb=>
  rename_i b rows;have:bH as j=.deep true (canon rows.length) (rows.map some):=by unfold bH;rw[hj];rfl
  rw[this]at ho;rw[hb];rcases ho with ho|⟨r,c,hr,ho⟩
  .exact .inl ho
  .exact .inr ⟨rows.length+r,c,kc hr,ho⟩
theorem Lent.ok{ι:Nat->Loc}{q:Option Nat}{arg:Arg}{l:Loc}(L:Lent h ι id q arg l)(hj:as[j]? =some arg)(ok:HeapOk w z M G h ι)
  (st:Stays w w (Held h ι) F') (HG:∀B,(∃o v,w.cell? ⟨B,o,none⟩=some v)->¬Held h ι B->G B->G' B) {z':Nat} (hO:∀B,Gl.owns (bH as j) l B->M' B):okB w F' G' (Org z' M' G') (bH as j) l:=by
 have okid:=okB.tr (O':=Org z M G) st HG (λ_ _=>rfl) (λ_ _ _ h=>h) (ok.ok id);have up:∀{O:Nat->Prop} {l':Loc} {c:List PV},rowOk w F' G' O l' c->(l'.cap≠0->M' l'.B)->rowOk w F' G' (Org z' M' G' true) l' c:=λ{O l' c} hr hm=>by
  obtain⟨h1,h2,h3⟩:=hr;refine⟨h1,h2, ?_⟩;by_cases h0:l'.cap=0
  .exact .inl h0
  .exact h3.imp _root_.id λ⟨q1,q2,_⟩=>⟨q1,q2,.inr ⟨rfl,hm h0⟩⟩
 cases L with
 |whole hb hp=>
  rename_i b c p;have e:bH as j=.live true c:=by grind [bH,dK]
  rw[e]at hO |-;rw[hb]at okid
  exact up okid λh0=>hO _ ⟨h0,rfl⟩
 |rows hb=>
  rename_i b rows;have e:bH as j=.deep true (canon rows.length) (rows.map some):=by unfold bH;rw[hj];rfl
  rw[e]at hO |-;rw[hb]at okid
  obtain⟨n1,⟨l1,l2,l3⟩,r1,d1,b1⟩:=okid;refine⟨n1,⟨l1,l2, ?_⟩,λr c hr=>up (r1 r c hr) λh0=>hO _ (.inr ⟨r,c,hr,h0,rfl⟩),d1,b1⟩;by_cases h0:(ι id).cap=0
  .exact .inl h0
  .exact l3.imp _root_.id λ⟨q1,_,q3⟩=>⟨q1,.inr ⟨rfl,hO _ (.inl ⟨h0,rfl⟩)⟩,q3⟩
 |inner hb hr hp=>
  rename_i b cs rs r c;have e:bH as j=.live true c:=by grind [bH,dK]
  rw[e]at hO |-;rw[hb]at okid
  exact up (okid.2.2.1 _ _ hr) λh0=>hO _ ⟨h0,rfl⟩
 |shift hz hb=>
  rename_i b rows;have e:bH as j=.deep true (canon rows.length) (rows.map some):=by unfold bH;rw[hj];rfl
  rw[e]at hO |-;rw[hb]at okid
  obtain⟨n1,⟨l1,l2,l3⟩,r1,d1,b1⟩:=okid;refine⟨by simp[Loc.shL],⟨by grind [canon,canonS,Loc.shL],l2, ?_⟩,λr c hr=>up (r1 _ c (kc hr)) λh0=>hO _ (.inr ⟨r,c,hr,h0,rfl⟩),λr c r' c' hr hr' hne=>d1 _ c _ c' (kc hr) (kc hr') (by omega),λr c hr=>b1 _ c (kc hr)⟩;by_cases h0:(ι id).cap=0
  .exact .inl h0
  .refine l3.imp _root_.id λ⟨q1,_,q3⟩=>⟨q1,.inr ⟨rfl,hO _ (.inl ⟨h0,rfl⟩)⟩,λi x hx=> ?_⟩
   have hi:i<rows.length:=by grind [canon]
   have hx2:x=.row i:=by grind [canon]
   subst hx2;obtain⟨v,v1,v2,v3⟩:=q3 i (.row (rows.length+i)) (by rw[wP,zB0 hi]);exact⟨v,v1,v2,by simpa using hi,λc hc=>v3.2 c (kc hc)⟩
theorem vO(hlt:r<rs.length):∀{c:List PV},(∀rows,c≠[.dl rows])->gi (some r) (some (some c)) (.deep b cs rs)=if(rs.getD r none).map List.length=some c.length then .deep b cs (rs.set r (some c))else .deep b cs (rs.set r none)
 |[],_=>zB0 hlt
 |[x],hp=>by cases x<;>first|exact zB0 hlt|exact absurd rfl (hp _)
 |x::_::_,_=>by cases x<;>exact zB0 hlt
theorem x7:∀{c:List PV},(∀rows,c≠[.dl rows])->gi none (some (some c)) (.live b c0)=.live b c
 |[],_=>rfl
 |[x],hp=>by cases x<;>first|rfl|exact absurd rfl (hp _)
 |x::_::_,_=>by cases x<;>rfl
theorem vP:∀{c:List PV},(∀rows,c≠[.dl rows])->gi none (some (some c)) (.deep b cs rs)=.dead
 |[],_=>rfl
 |[x],hp=>by cases x<;>first|rfl|exact absurd rfl (hp _)
 |x::_::_,_=>by cases x<;>rfl
theorem HT(hj:j<as.length):aZ tk as outs res j=gK as outs j:=by
 unfold aZ;grind [qU,jG,shift]
theorem Lent.back{ι:Nat->Loc}{q:Option Nat}{arg:Arg}{l l':Loc}(L:Lent h ι id q arg l)(le:LocEq l l')(hj:as[j]? =some arg){l2:Loc}(hl2:l2=q.elim l' λ_=>ι id)
  {w':World} {z:Nat} {M G' F' F2:Nat->Prop} {z':Nat} {M':Nat->Prop} (ok:HeapOk w z M G h ι) (houts:∀o∈outs,o.all noRoL=true)
  (okp:okB w' F' G' (Org z' M' G') (gK as outs j) l') (H:∀B,¬F' B->G' B->¬F2 B/\G B) (st:Stays w w' (Held h ι) F2)
  (keep:∀B,Gl.owns (h id) (ι id) B->¬M' B->w'.heap[B]? =w.heap[B]?) (hM:∀B,M' B->Gl.owns (h id) (ι id) B->Gl.owns (bH as j) l B):
  okB w' F2 G (Org z M G) (gi q outs[j]? (h id)) l2/\∀B,Gl.owns (gi q outs[j]? (h id)) l2 B->Gl.owns (gK as outs j) l' B\/(Gl.owns (h id) (ι id) B/\¬M' B):=by
 obtain⟨eB,eo,ec,en,einn⟩:=le;have nr:∀{c},outs[j]? =some (some c)->noRoL c=true:=λ{c} hc=>by
  have:=houts _ (zF9 hc);simpa using this
 have okid:=ok.ok id;cases L with
 |whole hb hp=>
  rename_i b c p;simp only[Option.elim]at hl2;subst hl2;have eo':gK as outs j=match outs[j]? with|some (some c)=>xx true c|_=>.dead:=by grind [gK]
  rw[hb]at okid |-
  cases ho:outs[j]? with
  |none=>exact⟨trivial,λB q=>q.elim⟩
  |some oc=>
   cases oc with
   |none=>exact⟨trivial,λB q=>q.elim⟩
   |some c'=>
    by_cases hdl:∃rows,c'=[.dl rows]
    .obtain⟨rows,rfl⟩:=hdl
     exact⟨trivial,λB q=>q.elim⟩
    .have hp':∀rows,c'≠[.dl rows]:=λrows e=>hdl ⟨rows,e⟩
     have e1:gi none (some (some c')) (.live b c)=.live b c':=x7 hp';rw[ho]at eo';simp only[dK hp']at eo';rw[e1];rw[eo']at okp |-
     refine⟨?_,λB ho=>.inl ho⟩;obtain⟨h1,h2,h3⟩:=okp;refine⟨h1,h2, ?_⟩;by_cases h0:l2.cap=0
     .exact .inl h0
     .rcases h3 with h3|⟨q1,q2,_⟩
      .exact absurd h3 h0
      .refine .inr ⟨q1,RepC.noRo H _ _ _ (nr ho) q2, ?_⟩
       obtain⟨_,_,g3⟩:=okid;grind
 |rows hb=>
  rename_i b rows;simp only[Option.elim]at hl2;subst hl2;have eo':gK as outs j=match outs[j]? with|some (some c)=>xx true c|_=>.dead:=by grind [gK]
  rw[hb]at okid |-
  have deadC:okB w' F2 G (Org z M G) .dead l2/\∀B,Gl.owns .dead l2 B->Gl.owns (gK as outs j) l2 B\/(Gl.owns (.deep b (canon rows.length) (rows.map some)) (ι id) B/\¬M' B):=⟨trivial,λB q=>q.elim⟩;cases ho:outs[j]? with
  |none=>exact deadC
  |some oc=>
   cases oc with
   |none=>exact deadC
   |some c'=>
    by_cases hdl:∃rows',c'=[.dl rows']
    .obtain⟨rows',rfl⟩:=hdl
     by_cases hlen:rows'.length=(rows.map some).length
     .have e1:gi none (some (some [.dl rows'])) (.deep b (canon rows.length) (rows.map some))=.deep b (canon rows'.length) (rows'.map some):=by grind [gi]
      rw[ho]at eo';simp only[xx]at eo';rw[e1];rw[eo']at okp |-
      refine⟨?_,λB ho=>.inl ho⟩;have hnr:=nr ho;simp only[noRoL,noRo,zG1]at hnr;have bn:gm (.deep true (canon rows'.length) (rows'.map some))=true:=by grind [gm,wO,sY]
      obtain⟨n1,⟨l1,l2',l3⟩,r1,d1,b1⟩:=okB.noRo (O2:=λ_ _=>True) H bn (λ_ _ e=>by cases e) (λ_ _ _ _ _=>trivial) okp;obtain⟨n0,⟨_,_,l30⟩,r10,_⟩:=okid;refine⟨n1,⟨l1,l2', ?_⟩,λr c hr=> ?_,d1,b1⟩
      .grind
      .have hlt:=(zB4.1 hr).1
       have hlt0:r<(ι id).n:=by grind
       have es:l2.sub r=(ι id).sub r:=by grind [Loc.sub]
       obtain⟨g1,g2,g3⟩:=r1 r c hr;refine⟨g1,g2, ?_⟩;by_cases h0:(l2.sub r).cap=0
       .exact .inl h0
       .rcases g3 with g3|⟨q1,q2,_⟩
        .exact absurd g3 h0
        .refine .inr ⟨q1,q2, ?_⟩
         have hlt':r<rows.length:=by grind
         have hr0:(rows.map some)[r]? =some (some rows[r]):=by simp[hlt']
         obtain⟨_,_,g3⟩:=r10 r _ hr0;grind
     grind [gi]
    grind [vP]
 |inner hb hr hp=>
  rename_i b cs rs r c;simp only[Option.elim]at hl2;subst hl2;have hlt:=(zB4.1 hr).1;have eo':gK as outs j=match outs[j]? with|some (some c)=>xx true c|_=>.dead:=by grind [gK]
  have ea:bH as j=.live true c:=by grind [bH,dK]
  have hb0:=hb;rw[hb]at okid keep hM |-
  obtain⟨n1,⟨l1,l2',l3⟩,r1,d1,b1⟩:=okid;have rne:∀{q c'},q≠r->rs[q]? =some (some c')->((ι id).sub q).cap≠0->¬M' ((ι id).sub q).B:=λ{q c'} hne hq h0 hm=>by
   have:=hM _ hm (.inr ⟨q,c',hq,h0,rfl⟩);rw[ea]at this;exact d1 q c' r c hq hr hne h0 this.1 this.2.symm
  have one:(ι id).cap≠0->¬M' (ι id).B:=λh0 hm=>by
   have:=hM _ hm (.inl ⟨h0,rfl⟩);rw[ea]at this;exact b1 r c hr h0 this.1 this.2
  have rest:∀(rs2:List (Option (List PV))),rs2.length=rs.length->(∀{q c'},q≠r->rs2[q]? =some (some c')->rs[q]? =some (some c'))->
    (∀c',rs2[r]? =some (some c')->c'.length=c.length/\rowOk w' F2 G (Org z M G b) ((ι id).sub r) c')->okB w' F2 G (Org z M G) (.deep b cs rs2) (ι id):=by
   intro rs2 e1 e2 e3;have old:∀{q c'},rs2[q]? =some (some c')->∃c0,rs[q]? =some (some c0):=λ{q c'} hq=>by
    by_cases e:q=r
    .subst e;exact⟨c,hr⟩
    .exact⟨c',e2 e hq⟩
   refine⟨by rw[e1];exact n1,⟨l1,l2', ?_⟩,λq c' hq=> ?_,λq c' q' c'' hq hq'=> ?_,λq c' hq=> ?_⟩
   .by_cases h0:(ι id).cap=0
    .exact .inl h0
    .rcases l3 with l3|⟨q1,q2,q3⟩
     .exact absurd l3 h0
     .have ek:=keep _ (.inl ⟨h0,rfl⟩) (one h0)
      refine .inr ⟨q1.same ek,q2,λjj x hjj=> ?_⟩;obtain⟨v,v1,v2,v3⟩:=q3 jj x hjj;refine⟨v,by grind [cell?_same],v2, ?_⟩;cases x with
      |v x=>exact RepP.tr st (λ_ _ _ h=>h) _ _ v3
      |row q=>
       refine⟨by rw[e1];exact v3.1,λc' hc'=> ?_⟩;by_cases e:q=r
       .subst e
        rw[(e3 c' hc').1];exact v3.2 c hr
       .exact v3.2 c' (e2 e hc')
      |self o=>exact v3
   .by_cases e:q=r
    .grind
    .have hq0:=e2 e hq
     exact rowOk.tr st (λ_ _ _ h=>h) (λh0=>keep _ (.inr ⟨q,c',hq0,h0,rfl⟩) (rne e hq0 h0)) (λ_ h=>h) (r1 q c' hq0)
   .grind
   grind
  have noneC:okB w' F2 G (Org z M G) (.deep b cs (rs.set r none)) (ι id)/\∀B,Gl.owns (.deep b cs (rs.set r none)) (ι id) B->Gl.owns (gK as outs j) l' B\/(Gl.owns (.deep b cs rs) (ι id) B/\¬M' B):=by
   have hset:∀{q c'},(rs.set r none)[q]? =some (some c')->q≠r/\rs[q]? =some (some c'):=by
    grind
   refine⟨rest _ (by simp) (λ_ hq=>(hset hq).2) (λc' hc'=>absurd rfl (hset hc').1),λB ho=>.inr ?_⟩;rcases ho with⟨h0,rfl⟩|⟨q,c',hq,h0,rfl⟩
   .exact⟨.inl ⟨h0,rfl⟩,one h0⟩
   .obtain⟨hne,hq⟩:=hset hq
    exact⟨.inr ⟨q,c',hq,h0,rfl⟩,rne hne hq h0⟩
  have oin:=Gt (b:=b) (cs:=cs) hlt;cases ho:outs[j]? with
  |none=>rw[oin.1];exact noneC
  |some oc=>
   cases oc with
   |none=>grind
   |some c'=>
    by_cases hdl:∃rows',c'=[.dl rows']
    .grind
    .have hp':∀rows,c'≠[.dl rows]:=λrows e=>hdl ⟨rows,e⟩
     by_cases hlen:c'.length=c.length
     .have hgd:(rs.getD r none).map List.length=some c'.length:=by grind
      have e1:gi (some r) (some (some c')) (.deep b cs rs)=.deep b cs (rs.set r (some c')):=by grind [vO]
      rw[ho]at eo';simp only[dK hp']at eo';rw[e1];rw[eo']at okp |-
      have hget:∀{q c''},(rs.set r (some c'))[q]? =some (some c'')->(q=r/\c''=c')\/(q≠r/\rs[q]? =some (some c'')):=by
       grind
      refine⟨rest _ (by simp) (λhne hq=> ?_) (λc'' hc''=> ?_),λB ho=> ?_⟩
      .grind
      .rcases hget hc'' with⟨_,rfl⟩|⟨e,_⟩
       .refine⟨hlen, ?_⟩
        obtain⟨h1,h2,h3⟩:=rowOk.loc okp eB.symm eo.symm ec.symm;refine⟨h1,h2, ?_⟩;by_cases h0:((ι id).sub r).cap=0
        .exact .inl h0
        .rcases h3 with h3|⟨q1,q2,_⟩
         .exact absurd h3 h0
         .refine .inr ⟨q1,RepC.noRo H _ _ _ (nr ho) q2, ?_⟩
          obtain⟨_,_,g3⟩:=r1 r c hr;grind
       .exact absurd rfl e
      .rcases ho with⟨h0,rfl⟩|⟨q,c'',hq,h0,rfl⟩
       .exact .inr ⟨.inl ⟨h0,rfl⟩,one h0⟩
       .rcases hget hq with⟨e,_⟩|⟨hne,hq⟩
        .subst e
         left;exact⟨by rw[ec];exact h0,eB⟩
        .exact .inr ⟨.inr ⟨q,c'',hq,h0,rfl⟩,rne hne hq h0⟩
     grind [vO]
 |shift h0 hb=>
  rename_i b rows;rw[hb,vN (by simp)];exact⟨trivial,λB q=>q.elim⟩
theorem Lent.backOwn{ι:Nat->Loc}{q:Option Nat}{arg:Arg}{l l':Loc}(L:Lent h ι id q arg l)(le:LocEq l l')(hj:as[j]? =some arg){l2:Loc}(hl2:l2=q.elim l' λ_=>ι id)
  {z:Nat} {M':Nat->Prop} (ok:HeapOk w z M G h ι) (hM:∀B,M' B->Gl.owns (h id) (ι id) B->Gl.owns (bH as j) l B):
  ∀B,Gl.owns (gi q outs[j]? (h id)) l2 B->Gl.owns (gK as outs j) l' B\/(Gl.owns (h id) (ι id) B/\¬M' B):=by
 obtain⟨eB,eo,ec,en,einn⟩:=le;have okid:=ok.ok id;have eo':∀{p c},arg=.mu p c->gK as outs j=match outs[j]? with|some (some c)=>xx true c|_=>.dead:=λ{p c} e=>by grind [gK]
 cases L with
 |whole hb hp=>
  rename_i b c p;simp only[Option.elim]at hl2;subst hl2;rw[hb];cases ho:outs[j]? with
  |none=>exact λB q=>q.elim
  |some oc=>
   cases oc with
   |none=>exact λB q=>q.elim
   |some c'=>
    by_cases hdl:∃rows,c'=[.dl rows]
    .obtain⟨rows,rfl⟩:=hdl;exact λB q=>q.elim
    .have hp':∀rows,c'≠[.dl rows]:=λrows e=>hdl ⟨rows,e⟩
     have e0:=eo' rfl;rw[ho]at e0;simp only[dK hp']at e0;rw[x7 hp',e0];exact λB ho=>.inl ho
 |rows hb=>
  rename_i b rows;simp only[Option.elim]at hl2;subst hl2;rw[hb];cases ho:outs[j]? with
  |none=>exact λB q=>q.elim
  |some oc=>
   cases oc with
   |none=>exact λB q=>q.elim
   |some c'=>
    by_cases hdl:∃rows',c'=[.dl rows']
    .obtain⟨rows',rfl⟩:=hdl
     have e0:=eo' rfl;rw[ho]at e0;simp only[xx]at e0;by_cases hlen:rows'.length=(rows.map some).length
     .simp only[gi];rw[zB0 hlen,e0];exact λB ho=>.inl ho
     .simp only[gi];rw[zA8 hlen];exact λB q=>q.elim
    .rw[vP λrows e=>hdl ⟨rows,e⟩];exact λB q=>q.elim
 |inner hb hr hp=>
  rename_i b cs rs r c;simp only[Option.elim]at hl2;subst hl2;have hlt:=(zB4.1 hr).1;have ea:bH as j=.live true c:=by grind [bH,dK]
  rw[hb]at okid hM |-
  obtain⟨n1,_,r1,d1,b1⟩:=okid;have rne:∀{q c'},q≠r->rs[q]? =some (some c')->((ι id).sub q).cap≠0->¬M' ((ι id).sub q).B:=λ{q c'} hne hq h0 hm=>by
   have:=hM _ hm (.inr ⟨q,c',hq,h0,rfl⟩);rw[ea]at this;exact d1 q c' r c hq hr hne h0 this.1 this.2.symm
  have one:(ι id).cap≠0->¬M' (ι id).B:=λh0 hm=>by
   have:=hM _ hm (.inl ⟨h0,rfl⟩);rw[ea]at this;exact b1 r c hr h0 this.1 this.2
  have noneC:∀B,Gl.owns (.deep b cs (rs.set r none)) (ι id) B->Gl.owns (gK as outs j) l' B\/(Gl.owns (.deep b cs rs) (ι id) B/\¬M' B):=by
   intro B ho;right;rcases ho with⟨h0,rfl⟩|⟨q,c',hq,h0,rfl⟩
   .exact⟨.inl ⟨h0,rfl⟩,one h0⟩
   .rw[List.getElem?_set]at hq
    by_cases e:r=q
    .grind
    .rw[zA8 e]at hq;exact⟨.inr ⟨q,c',hq,h0,rfl⟩,rne (Ne.symm e) hq h0⟩
  have oin:=Gt (b:=b) (cs:=cs) hlt;cases ho:outs[j]? with
  |none=>rw[oin.1];exact noneC
  |some oc=>
   cases oc with
   |none=>grind
   |some c'=>
    by_cases hdl:∃rows',c'=[.dl rows']
    .grind
    .have hp':∀rows,c'≠[.dl rows]:=λrows e=>hdl ⟨rows,e⟩
     rw[vO hlt hp'];split
     .have e0:=eo' rfl
      rw[ho]at e0;simp only[dK hp']at e0;intro B ho;rcases ho with⟨h0,rfl⟩|⟨q,c'',hq,h0,rfl⟩
      .exact .inr ⟨.inl ⟨h0,rfl⟩,one h0⟩
      .rw[List.getElem?_set]at hq
       by_cases e:r=q
       .subst e;left;rw[e0];exact⟨by rw[ec];exact h0,eB⟩
       .rw[zA8 e]at hq;exact .inr ⟨.inr ⟨q,c'',hq,h0,rfl⟩,rne (Ne.symm e) hq h0⟩
     .exact noneC
 |shift h0 hb=>
  rename_i b rows;rw[hb,vN (by simp)];exact λB q=>q.elim
def KK(b:Blk)(l:Loc)(r:Nat):Loc:=
 match b with
 | .deep _ _ rs=>if r<rs.length then l.sub r else l.shL (r/2)
 |_=>l.sub r
theorem Fm{o:Oper}(h:Rel w0 nA nt M G ι0 A w S ι a)(hd:∀d,o.dst=some d->d<nt)(hA:∀x,x<256->¬A (k+x))
  (hrun:∀fn,P.funcs[f]? =some fn->fn.body.isSome=true->(fn.name== "runtime.NumGoroutine")=false->(execOp a.eval o).run P w=.ok (.enter f ⟨vals⟩) w)
  (hvs:RepAL w (Held S.h ι) G ι vs vals) (hnamed:∀i,AV.hasL vs i=true->A i) (hK:Dr P sg S.h k f vs K):Does P w0 nA nt M G ι0 A k o w S a K:=by
 obtain⟨as,rd,ms,⟨hlent,tk,outs,res,hc,t,ht,hk⟩,l1,l2,hh⟩:=Ep hK;obtain⟨⟨fn,hf1,hf2,hf3⟩,hnr,hro,houts,hcall⟩:=hc;obtain⟨hnodup,hread⟩:=hlent;have hrun:=hrun fn hf1 hf2 hf3;let ιf:Nat->Loc:=λj=>match ms[j]? with|some (some (id,none))=>ι id|some (some (id,some r))=>KK (S.h id) (ι id) r|_=>⟨0,0,0,0,bC⟩
 let G':Nat->Prop:=λB=>G B/\¬Held S.h ι B;have lent:∀{j id:Nat} {q:Option Nat},ms[j]? =some (some (id,q))->A id/\j<as.length/\∃arg,as[j]? =some arg/\Lent S.h ι id q arg (ιf j):=by
  intro j id q hj;have hlt:=(zB4.1 hj).1;have hv:=zA1 (l:=vs) (i:=j) (by omega);have ha:=zA1 (l:=as) (i:=j) (by omega);rcases hh j _ _ _ hv ha hj with⟨x,_,e,_⟩|⟨c1,id',b,e1,e2,e3,e4⟩|⟨c1,id',b,e1,e2,e3,e4⟩|⟨rows,id',b,e1,e2,e3,e4⟩|⟨c1,id',r,b,cs,rs,e1,e2,e3,e4,e5⟩|⟨rows,id',b,e1,e2,e3,e0,e4⟩
  .cases e
  .cases e2
   refine⟨hnamed id (hasL_mem hv (by rw[e3];simp[AV.has])),by omega,_,ha, ?_⟩;rw[e1,show ιf j=ι id by simp only[ιf,hj]];exact .whole e4 (rowOk.plain (by have:=h.heap.ok id;rwa [e4]at this))
  .cases e2
   refine⟨hnamed id (hasL_mem hv (by rw[e3];simp[AV.has])),by omega,_,ha, ?_⟩;rw[e1,show ιf j=ι id by simp only[ιf,hj]];exact .whole e4 (rowOk.plain (by have:=h.heap.ok id;rwa [e4]at this))
  .cases e2
   refine⟨hnamed id (hasL_mem hv (by rw[e3];simp[AV.has])),by omega,_,ha, ?_⟩;rw[e1,show ιf j=ι id by simp only[ιf,hj]];exact .rows e4
  .cases e2
   refine⟨hnamed id (hasL_mem hv (by rw[e3];simp[AV.has])),by omega,_,ha, ?_⟩;have hlt2:=(zB4.1 e5).1;rw[e1,show ιf j=(ι id).sub r by grind [KK]];exact .inner e4 e5 (rowOk.plain (h.heap.deepRow e4 e5).2)
  .cases e2
   refine⟨hnamed id (hasL_mem hv (by rw[e3];simp[AV.has])),by omega,_,ha, ?_⟩;have hlt2:¬rows.length+rows.length<(List.replicate rows.length (none:Option (List PV))++rows.map some).length:=by simp
   rw[e1,show ιf j=(ι id).shL rows.length by grind [KK]];exact .shift e0 e4
 have argDead:∀j,(¬∃id q,ms[j]? =some (some (id,q)))->bH as j=.dead:=by
  intro j hno;unfold bH;split
  .rename_i p c haj
   exfalso;have hlt:=(zB4.1 haj).1;have hv:=zA1 (l:=vs) (i:=j) (by omega);have hm:=zA1 (l:=ms) (i:=j) (by omega);rcases hh j _ _ _ hv haj hm with⟨x,e,_⟩|⟨c1,id,b,_,e2,_⟩|⟨c1,id,b,_,e2,_⟩|⟨rows,id,b,_,e2,_⟩|⟨c1,id,r,b,cs,rs,_,e2,_⟩|⟨rows,id,b,_,e2,_⟩
   .cases e
   all_goals grind
  .rfl
 have lentOwn:∀{j B:Nat},owns (bH as j) (ιf j) B->∃(id:Nat) (q:Option Nat),ms[j]? =some (some (id,q))/\owns (S.h id) (ι id) B:=by
  intro j B ho;by_cases hex:∃id q,ms[j]? =some (some (id,q))
  .obtain⟨id,q,hj⟩:=hex
   obtain⟨_,_,arg,ha,L⟩:=lent hj;exact⟨id,q,hj,L.owns ha ho⟩
  .rw[argDead j hex]at ho;exact ho.elim
 have mHeld:∀B,fQ as ιf B->Held S.h ι B:=by
  rintro B ⟨j,ho⟩;obtain⟨id,q,_,ho⟩:=lentOwn ho;exact⟨id,ho⟩
 have gg:∀B,(∃o v,w.cell? ⟨B,o,none⟩=some v)->¬Held S.h ι B->G B->G' B:=λ_ _ hF hG=>⟨hG,hF⟩;have ok0:HeapOk w w.heap.size (fQ as ιf) G' (bH as) ιf:=by
  refine⟨λj=> ?_,λj j' B ho ho'=> ?_⟩
  .by_cases hex:∃id q,ms[j]? =some (some (id,q))
   .obtain⟨id,q,hj⟩:=hex
    obtain⟨_,_,arg,ha,L⟩:=lent hj;exact L.ok ha h.heap (λB o v hF hv=>⟨hv,λh'=>hF (mHeld B h')⟩) gg λB ho=>⟨j,ho⟩
   .rw[argDead j hex];trivial
  .obtain⟨id,q,hj,ho⟩:=lentOwn ho
   obtain⟨id',q',hj',ho'⟩:=lentOwn ho';have:=h.heap.apart id id' B ho ho';grind [rZ]
 have hvals:RepAL w (Held (bH as) ιf) G' ιf (bA 0 as) vals:=by
  refine xc (by grind [dr,d4]) λj x val hx hval=> ?_;rw[wW]at hx;simp only[zG2]at hx;obtain⟨arg,harg,rfl⟩:=hx;have hlt:=(zB4.1 harg).1;have hv:=zA1 (l:=vs) (i:=j) (by omega);have hm:=zA1 (l:=ms) (i:=j) (by omega);obtain⟨val',hval',hrep⟩:=ks hvs j _ hv;rw[hval]at hval';cases hval'
  rcases hh j _ _ _ hv harg hm with⟨x,rfl,_,p⟩|⟨c1,id,b,rfl,e2,e3,e4⟩|⟨c1,id,b,rfl,e2,e3,e4⟩|⟨rows,id,b,rfl,e2,e3,e4⟩|⟨c1,id,r,b,cs,rs,rfl,e2,e3,e4,e5⟩|⟨rows,id,b,rfl,e2,e3,e0,e4⟩
  .simp only[Arg.av,RepA]
   refine p h.heap hrep mHeld (λid hid B ho hM=> ?_) λB hF hG=>⟨hG,hF⟩;obtain⟨j',ho'⟩:=hM;obtain⟨id',q',hj',ho'⟩:=lentOwn ho';have:=h.heap.apart id id' B ho ho';grind [lids_mem]
  .rw[e3]at hrep
   rw[e2]at hm;have e5:ιf j=ι id:=by simp only[ιf,hm]
   have hp:=rowOk.plain (by have:=h.heap.ok id;rwa [e4]at this);grind [Arg.av,RepA,wa]
  .grind [Arg.av,RepA]
  .grind [Arg.av,RepA,xy]
  .rw[e3]at hrep
   rw[e2]at hm;have hlt2:=(zB4.1 e5).1;have e6:ιf j=(ι id).sub r:=by grind [KK]
   have hp:=rowOk.plain (h.heap.deepRow e4 e5).2;grind [Arg.av,RepA,wa]
  .rw[e3]at hrep
   rw[e2]at hm;have hlt2:¬rows.length+rows.length<(List.replicate rows.length (none:Option (List PV))++rows.map some).length:=by simp
   have e6:ιf j=(ι id).shL rows.length:=by grind [KK]
   simp only[Arg.av,RepA,zI0,xy]at hrep |-
   rw[e6];exact hrep
 have hnew:∀B,w.heap.size<=B->G' B:=λB hB=>⟨h.new B (zE0 h.keep.size hB),λhh=>by have:=aev h.heap hh;omega⟩;have hamb:AmbOk w (fQ as ιf):=by
  have h0:∀B o,Amb.tb B=some o->w0.heap[B]? =some o:=AmbOk.ok (w:=w0) (M:=M);have h1:∀B o,Amb.tb B=some o->¬M B:=AmbOk.off (w:=w0) (M:=M);have h2:∀B o,Amb.tb B=some o->B<w0.heap.size:=λB o hv=>(zC7.1 (h0 B o hv)).1;refine⟨λB o hv=> ?_,λB o hv hB=> ?_⟩
  .rw[h.keep.block B (h2 B o hv) (h1 B o hv)];exact h0 B o hv
  .obtain⟨j,ho⟩:=hB
   obtain⟨id,q,_,ho⟩:=lentOwn ho;obtain⟨m,g⟩:=(h.heap.ok id).org ho;rcases g with⟨g,_⟩|⟨_,g⟩
   .grind
   .exact h1 B o hv g
 intro Kc Qc next
 unfold Oper.wp;rw[hrun,Oper.upon_enter];refine(hcall w G' ιf vals hamb hnew ok0 hvals).mono ?_;rintro e w' ⟨v,ι',rfl,hι,keep,ok,hres⟩;have wholeDec:∀id:Nat,Decidable (∃j:Nat,ms[j]? =some (some (id,none))):=λ_=>Classical.propDecidable _;refine next _ v w' (λid=>if k<=id/\id<k+256 then ι' (as.length+(id-k))else @dite _ (∃j:Nat,ms[j]? =some (some (id,none))) (wholeDec id) (λhx=>ι' (Classical.choose hx)) (λ_=>ι id)) hk ?_
 generalize hn:as.length=n at*
 let ι2:Nat->Loc:=λid=>if k<=id/\id<k+256 then ι' (n+(id-k))else @dite _ (∃j:Nat,ms[j]? =some (some (id,none))) (wholeDec id) (λhx=>ι' (Classical.choose hx)) (λ_=>ι id)
 let h2:Nat->Blk:=hwsH S.h (fo S.h outs 0 ms++impWs t k res);have eι:∀x,x<256->ι2 (k+x)=ι' (n+x):=λx hx=>by
  grind
 have eιw:∀{id j:Nat},¬(k<=id/\id<k+256)->ms[j]? =some (some (id,none))->ι2 id=ι' j:=λ{id j} hr hj=>by
  have hx:∃j:Nat,ms[j]? =some (some (id,none)):=⟨j,hj⟩;grind [rZ]
 have eιo:∀{id:Nat},¬(k<=id/\id<k+256)->(¬∃j:Nat,ms[j]? =some (some (id,none)))->ι2 id=ι id:=λ{id} hr hx=>by
  grind
 have notFresh:∀{id},A id->¬(k<=id/\id<k+256):=λ{id} hid hr=>by
  grind
 have eιA:∀id,A id->LocEq (ι id) (ι2 id):=λid hid=>by
  grind [LocEq.refl]
 have H1:∀x,x<256->h2 (k+x)=aZ t as outs res (n+x):=by
  intro x hx;show hwsH S.h (fo S.h outs 0 ms++impWs t k res) (k+x)=hwsH (gK as outs) (impWs t as.length res) (n+x);rw[bO,jG t res k,jG t res as.length,hn];refine ER ?_;have hnm:k+x∉db ms:=λhm=>by
   grind [lids_mem]
  rw[iu hnm,h.alloc _ (hA x hx)];grind [gK]
 have H2:∀id,¬(k<=id/\id<k+256)->h2 id=hwsH S.h (fo S.h outs 0 ms) id:=by
  intro id hid;show hwsH S.h (fo S.h outs 0 ms++impWs t k res) id=_;rw[bO];refine qT λp hp e=> ?_;rw[jG]at hp;simp only[shift,zD0]at hp;obtain⟨q,hq,rfl⟩:=hp;grind [Iy]
 have P1:∀j,j<n->aZ tk as outs res j=gK as outs j:=λj hj=>HT (by omega);have freshFlag:∀t x,x<256->aZ t as outs res (n+x)≠ .dead->DB t (aZ t as outs res (n+x))/\gm (aZ t as outs res (n+x))=true:=by
  intro t x hx hne;unfold aZ at hne |-
  rcases qU (h:=gK as outs) (l:=impWs t as.length res) (i:=n+x)with e|⟨b,hb,e⟩
  .exfalso;apply hne;rw[e]
   unfold gK;have:as[n+x]? =none:=zG9 (by omega);rw[this]
  .obtain⟨q1,q2⟩:=EN _ hb
   rw[e];exact⟨q1,q2 hnr⟩
 have nd:∀B,Held (aZ tk as outs res) ι' B->w.heap.size<=B\/fQ as ιf B:=by
  rintro B ⟨id,ho⟩;obtain⟨m,g⟩:=(ok.ok id).org ho;rcases g with⟨g,_⟩|⟨_,g⟩
  .exact .inl g
  .exact .inr g
 have hM:∀{j id:Nat} {q:Option Nat},ms[j]? =some (some (id,q))->∀B,fQ as ιf B->owns (S.h id) (ι id) B->owns (bH as j) (ιf j) B:=by
  rintro j id q hj B ⟨j',ho'⟩ ho;obtain⟨id',q',hj',ho2⟩:=lentOwn ho';have:=h.heap.apart id id' B ho ho2;subst this;rw[rZ hnodup hj hj'];exact ho'
 have notM:∀{id B},id∉db ms->owns (S.h id) (ι id) B->¬fQ as ιf B:=by
  rintro id B hm ho ⟨j',ho'⟩;obtain⟨id',q',hj',ho2⟩:=lentOwn ho';have:=h.heap.apart id id' B ho ho2;subst this;exact hm (lids_mem.2 ⟨j',q',hj'⟩)
 have keepO:∀{id B},owns (S.h id) (ι id) B->¬fQ as ιf B->w'.heap[B]? =w.heap[B]? :=λ{id B} ho hm=>keep.block B ((h.heap.ok id).lt ho) hm;have l2of:∀{id j:Nat} {q:Option Nat},ms[j]? =some (some (id,q))->ι2 id=q.elim (ι' j) λ_=>ι id:=λ{id j q} hj=>by
  have hr:=notFresh (lent hj).1;cases q with
  |none=>exact eιw hr hj
  |some r=>
   refine eιo hr λ⟨j',hj'⟩=> ?_;have:=rZ hnodup hj hj';subst this;rw[hj]at hj';cases hj'
 have atLent:∀{id j:Nat} {q:Option Nat},ms[j]? =some (some (id,q))->h2 id=gi q outs[j]? (S.h id):=λ{id j q} hj=>by
  rw[H2 id (notFresh (lent hj).1),LX hnodup hj,zI0]
 have atOld:∀{id:Nat},¬(k<=id/\id<k+256)->id∉db ms->h2 id=S.h id/\ι2 id=ι id:=λ{id} hr hm=>
  ⟨by rw[H2 id hr,iu hm],eιo hr λ⟨j,hj⟩=>hm (lids_mem.2 ⟨j,none,hj⟩)⟩
 have cls:∀id B,owns (h2 id) (ι2 id) B->
   (∃x,x<256/\id=k+x/\owns (aZ tk as outs res (n+x)) (ι' (n+x)) B)\/
   (∃(j:Nat) (q:Option Nat),ms[j]? =some (some (id,q))/\owns (aZ tk as outs res j) (ι' j) B)\/
   (owns (S.h id) (ι id) B/\¬fQ as ιf B/\¬(k<=id/\id<k+256)):=by
  intro id B ho;by_cases hr:k<=id/\id<k+256
  .have e:id=k+(id-k):=by omega
   rw[e,H1 _ (by omega),eι _ (by omega)]at ho;exact .inl ⟨id-k,by omega,e,(BB _).owns.1 ho⟩
  .right
   by_cases hm:id∈db ms
   .obtain⟨j,q,hj⟩:=lids_mem.1 hm
    obtain⟨hAid,hjl,arg,ha,L⟩:=lent hj;rw[atLent hj]at ho;rcases L.backOwn (hι j hjl) ha (l2of hj) h.heap (λB=>hM hj B) B ho with q1|⟨q1,q2⟩
    .left;exact⟨j,q,hj,by rw[P1 j hjl];exact q1⟩
    .right;exact⟨q1,q2,hr⟩
   .obtain⟨e1,e2⟩:=atOld hr hm
    rw[e1,e2]at ho;exact .inr ⟨ho,notM hm ho,hr⟩
 have heldCases:∀B,Held h2 ι2 B->Held (aZ tk as outs res) ι' B\/(Held S.h ι B/\¬fQ as ιf B):=by
  rintro B ⟨id,ho⟩;rcases cls id B ho with⟨x,_,_,ho⟩|⟨j,q,_,ho⟩|⟨ho,hm,_⟩
  .exact .inl ⟨_,ho⟩
  .exact .inl ⟨_,ho⟩
  .exact .inr ⟨⟨id,ho⟩,hm⟩
 have st:Stays w w' (Held S.h ι) (Held h2 ι2):=by
  intro B o v hF hv;have hlt:=cell?_lt hv;have hnM:¬fQ as ιf B:=λhM=>hF (mHeld B hM);refine⟨by rw[cell?_same (keep.block B hlt hnM)];exact hv,λhh=> ?_⟩;rcases heldCases B hh with hp|⟨hp,_⟩
  .rcases nd B hp with hp|hp
   .omega
   .exact hnM hp
  .exact hF hp
 have HH:∀B,¬Held (aZ tk as outs res) ι' B->G' B->¬Held h2 ι2 B/\G B:=by
  intro B hF hG;refine⟨λhh=> ?_,hG.1⟩;rcases heldCases B hh with hp|⟨hp,_⟩
  .exact hF hp
  .exact hG.2 hp
 have fromLent:∀B,fQ as ιf B->(w0.heap.size<=B/\G B)\/M B:=by
  rintro B ⟨j,ho⟩;obtain⟨id,q,_,ho⟩:=lentOwn ho;obtain⟨m,g⟩:=(h.heap.ok id).org ho;rcases g with g|⟨_,g⟩
  .exact .inl g
  .exact .inr g
 have fromLentF:MR S.h ms->∀B,fQ as ιf B->w0.heap.size<=B/\G B:=by
  rintro hf B ⟨j,ho⟩;obtain⟨id,q,hj,ho⟩:=lentOwn ho;have g:=(h.heap.ok id).orgF ho;rw[hf id (lids_mem.2 ⟨j,q,hj⟩)]at g;rcases g with g|⟨g,_⟩
  .exact g
  .cases g
 have ok2:HeapOk w' w0.heap.size M G h2 ι2:=by
  refine⟨λid=> ?_,λid id' B ho ho'=> ?_⟩
  .by_cases hr:k<=id/\id<k+256
   .have e:id=k+(id-k):=by omega
    rw[e,H1 _ (by omega),eι _ (by omega)];have rf:RF (aZ tk as outs res (n+(id-k))) (aZ t as outs res (n+(id-k))):=BB _;by_cases hdd:aZ t as outs res (n+(id-k))=.dead
    .rw[hdd];trivial
    .have hdd':aZ tk as outs res (n+(id-k))≠ .dead:=by
      intro e;rw[e]at rf;rcases rf with e|⟨_,_,_,e,_⟩|⟨_,_,_,_,e,_⟩
      .exact hdd e.symm
      .cases e
      .cases e
     obtain⟨hfl,hnr'⟩:=freshFlag tk _ (by omega) hdd';refine rf.ok (freshFlag t _ (by omega) hdd).1 (X:=Org w0.heap.size M G t) (λB hB=>hB) ?_;refine okB.noRo HH hnr' (λm c e=> ?_) (λm B hf ho hO=> ?_) (ok.ok _)
     .rcases hfl with⟨_,q⟩|⟨_,_,q⟩<;>rw[e]at q<;>cases q
     .have em:m=tk:=by
       rcases hfl with⟨_,q1⟩|⟨_,_,q1⟩<;>rcases hf with⟨_,q2⟩|⟨_,_,q2⟩<;>rw[q1]at q2<;>cases q2<;>rfl
      rcases hO with⟨q1,q2⟩|⟨q1,q2⟩
      .exact .inl ⟨zE0 h.keep.size q1,q2.1⟩
      .cases t with
       |false=>exact .inl (fromLentF (ht rfl (em▸q1)) _ q2)
       |true=>
        rcases fromLent _ q2 with q|q
        .exact .inl q
        .exact .inr ⟨rfl,q⟩
   .by_cases hm:id∈db ms
    .obtain⟨j,q,hj⟩:=lids_mem.1 hm
     obtain⟨hAid,hjl,arg,ha,L⟩:=lent hj;rw[atLent hj];have okp:=ok.ok j;rw[P1 j hjl]at okp;exact(L.back (hι j hjl) ha (l2of hj) h.heap (λo ho=>zC8.1 houts o ho) okp HH st (λB ho hm=>keepO ho hm) (λB=>hM hj B)).1
    .obtain⟨e1,e2⟩:=atOld hr hm
     rw[e1,e2];exact(h.heap.ok id).tr st (λ_ _ _ h=>h) (λB ho=>keepO ho (notM hm ho)) (λ_ _ _ h=>h)
  .have apart:∀{id B},owns (S.h id) (ι id) B->¬fQ as ιf B->∀{j},¬owns (aZ tk as outs res j) (ι' j) B:=by
    intro id B ho hm j hp;rcases nd B ⟨j,hp⟩with q|q
    .have:=(h.heap.ok id).lt ho;omega
    .exact hm q
   rcases cls id B ho with⟨x,hx,rfl,hp⟩|⟨j,q,hj,hp⟩|⟨hp,hm,hr⟩<;>rcases cls id' B ho' with⟨x',hx',rfl,hp'⟩|⟨j',q',hj',hp'⟩|⟨hp',hm',hr'⟩
   .have:=ok.apart _ _ B hp hp';omega
   .have:=ok.apart _ _ B hp hp'
    have:=(lent hj').2.1;omega
   .exact(apart hp' hm' hp).elim
   .have:=ok.apart _ _ B hp hp'
    have:=(lent hj).2.1;omega
   .have:=ok.apart _ _ B hp hp'
    subst this;rw[hj]at hj';cases hj';rfl
   .exact(apart hp' hm' hp).elim
   .exact(apart hp hm hp').elim
   .exact(apart hp hm hp').elim
   .exact h.heap.apart _ _ B hp hp'
 have keep2:Keep w0 w' M:=⟨keep.os.trans h.keep.os,keep.tape.trans h.keep.tape,keep.output.trans h.keep.output,zE0 h.keep.size keep.size,λB hB hM=>by
  rw[keep.block B (Nat.lt_of_lt_of_le hB h.keep.size) (λhm=> ?_),h.keep.block B hB hM];rcases fromLent B hm with⟨q,_⟩|q
  .omega
  .exact hM q,λq=>zE0 (h.keep.drawn q) (keep.drawn q)⟩
 have rel:=h.stepK (A':=gh A k) (λi hi=>.inl hi) keep2 ok2 st eιA (λi hi=>by
  have hr:¬(k<=i/\i<k+256):=λhr=>hi (.inr hr);have hnA:¬A i:=λhA=>hi (.inl hA);show h2 i=.dead;rw[H2 i hr,iu λhm=>by
   obtain⟨j,q,hj⟩:=lids_mem.1 hm;exact hnA (lent hj).1]
  exact h.alloc i hnA)
 rw[bV];exact rel.put o.dst hd (EO HH eι hnr hro hres) λi hi=>.inr (EP hro hi)
theorem EV{h:Nat->Blk}:∀{l:List Nat},FrzL h (mG h l)
 |[]=>λp hp=>by simp[mG]at hp
 |id::l=>λp hp=>by
  simp only[mG,IF]at hp;split at hp
  .rename_i m c e
   rcases zD7.1 hp with rfl|hp
   .exact⟨m,c,e,rfl⟩
   .exact EV p hp
  .exact EV p hp
theorem Fo{o:Oper}(h:Rel w0 nA nt M G ι0 A w S ι a)(hd:∀d,o.dst=some d->d<nt)(hA:∀x,x<256->¬A (k+x))
  (hrun:∀fn,P.funcs[f]? =some fn->fn.body.isSome=true->(fn.name== "runtime.NumGoroutine")=false->(execOp a.eval o).run P w=.ok (.enter f ⟨vals⟩) w)
  (hvs:RepAL w (Held S.h ι) G ι vs vals) (hnamed:∀i,AV.hasL vs i=true->A i) (hK:OD P sg S.h k f vs K):Does P w0 nA nt M G ι0 A k o w S a K:=by
 have fz:=(EV (h:=S.h) (l:=nT (sg (f+8589934592)) vs)).frz;have h1:=h.frz fz;have hvs1:=RepAL.tr (Stays.frz fz w ι) (λ_ _ _ h=>h) _ _ (λ_ _=>LocEq.refl _) hvs;have key:=Fm (S:={S with h:=hwsH S.h (mG S.h (nT (sg (f+8589934592)) vs))}) h1 hd hA hrun hvs1 hnamed hK;intro Kc Qc next
 refine key Kc Qc λr val w' ι' hr hrel=>next _ val w' ι' hr ?_
 grind [bV,bO]
end
section
variable {P:Program}{sg:FuncId->List Bool}{w0:World}{nA nt:Nat}{M G:Nat->Prop}{ι0:Nat->Loc}{w:World}{S:St}{ι:Nat->Loc}{a:Act}
variable [AmbOk w0 M]
theorem Rel.drawn(h:Rel w0 nA nt M G ι0 A w S ι a)(d:Nat)(hd:w.drawn<=d):Rel w0 nA nt M G ι0 A {w with drawn:=d} S ι a:=by
 have st:Stays w {w with drawn:=d} (Held S.h ι) (Held S.h ι):=λ_ _ _ h hv=>⟨hv,h⟩;exact h.step (λ_ h=>h) ⟨rfl,rfl,rfl,zB1 _,λ_ _ _=>rfl,λ_=>hd⟩ ⟨λid=>(h.heap.ok id).tr st (λ_ _ _ h=>h) (λ_ _=>rfl) (λ_ _ _ h=>h),h.heap.apart⟩ st (λ_ _=>LocEq.refl _) h.alloc
theorem we{o:Nat}(h:RepC w F G B o (l.map (PV.int .i64))):RepC w F' G' B o (l.map (PV.int .i64)):=by
 grind [aY,RepP]
theorem NX{o:Oper}(h:Rel w0 nA nt M G ι0 A w S ι a)(hd:∀d,o.dst=some d->d<nt){srt:List (List Int)->List (List Int)}
  (hrun:(execOp a.eval o).run P w=.ok (.enter f ⟨vals⟩) w) (hvs:RepAL w (Held S.h ι) G ι [.ref id 0 L.length,.p (.fn g [] [])] vals) (hid:A id)
  (hblk:S.h id=.deep m (canon L.length) (L.map λl=>some (l.map (PV.int .i64)))) (h0:0<L.length) (hL1:L.length<=1048576) (hL2:∀l∈L,l.length<=1048576)
  (hS:∀(w:World) (B off cap:Nat) (L:List (List Int)) (hd:Nat->Value) (cs:Array Value) (E:TypeId) (lo hi:Nat),w.heap[B]? =some (.cells cs E (lo,hi))->off+L.length<=cs.size->(hi<=lo\/cs.size<=lo)->0<L.length->L.length<=1048576->(∀l∈L,l.length<=1048576)->
   (∀j,j<L.length->cs[off+j]? =some (hd j)/\(hd j).oneCell'=true/\RepP w (λB'=>B'=B) (λ_=>True) (.sl .ro ((L.getD j []).map (PV.int .i64))) (hd j))->
   Calls P f #[.slice (some ⟨B,off,none⟩) L.length cap,.func (.func g) #[] #[]] w λe w'=>e=.returned (.tuple #[])/\∃s:List Nat,s.Perm (List.range L.length)/\srt L=s.map (λi=>L.getD i [])/\w'.os=w.os/\w'.tape=w.tape/\w'.output=w.output/\
    w.heap.size<=w'.heap.size/\w.drawn<=w'.drawn/\(∀k,k<w.heap.size->k≠B->w'.heap[k]? =w.heap[k]?)/\∃cs',w'.heap[B]? =some (.cells cs' E (lo,hi))/\cs'.size=cs.size/\∀j,j<L.length->cs'[off+j]? =some (hd (s.getD j 0)))
  (hk:K ⟨.p .any,[(id,.deep m (canonS L.length) (List.replicate L.length none++(srt L).map λl=>some (l.map (PV.int .i64))))],[id]⟩):Does P w0 nA nt M G ι0 A k o w S a K:=by
 simp only[RepAL]at hvs;obtain⟨v,vs',rfl,hx,v2,vs2,rfl,hx2,rfl⟩:=hvs;obtain⟨ad,cap,hv,hl,hcap,hm,hc⟩:=cS hx;simp only[RepA,RepP,RepL]at hx2;obtain⟨_,_,rfl,rfl,rfl⟩:=hx2;have okid:=h.heap.ok id;rw[hblk]at okid;obtain⟨n1,⟨l1,l2,l3⟩,r1,d1,b1⟩:=okid;have n1:L.length=(ι id).n:=by simpa using n1
 have hcl:L.length<=(ι id).cap:=by simpa[canon]using l1
 have hc0:(ι id).cap≠0:=by omega
 have had:ad=some ⟨(ι id).B,(ι id).off,none⟩:=by
  grind
 rcases l3 with l3|⟨⟨cs,E,lo,hi,hcell,hfit,hfr⟩,horg,hcells⟩
 .exact absurd l3 hc0
 have hrow:∀j,j<L.length->(L.map λl=>some (l.map (PV.int .i64)))[j]? =some (some ((L.getD j []).map (PV.int .i64))):=λj hj=>by
  grind
 have hel:∀j:Nat,∃v,j<L.length->w.cell? ⟨(ι id).B,(ι id).off+j,none⟩=some v/\v.oneCell'=true/\tT ((ι id).sub j) (L.getD j []).length v:=λj=>by
  by_cases hj:j<L.length
  .obtain⟨v,v1,v2,v3⟩:=hcells j (.row j) (by grind [canon])
   refine⟨v,λ_=>⟨v1,v2, ?_⟩⟩;have:=v3.2 _ (hrow j hj);grind
  .exact⟨.bool true,λh=>absurd h hj⟩
 obtain⟨hdr,hh⟩:∃hdr:Nat->Value,∀j,j<L.length->w.cell? ⟨(ι id).B,(ι id).off+j,none⟩=some (hdr j)/\(hdr j).oneCell'=true/\tT ((ι id).sub j) (L.getD j []).length (hdr j):=⟨λj=>Classical.choose (hel j),λj=>Classical.choose_spec (hel j)⟩;have key:=hS w (ι id).B (ι id).off cap L hdr cs E lo hi hcell (by omega) (hfr.imp_right And.right) h0 hL1 hL2 (λj hj=>by
  obtain⟨e1,e2,a',e3,e4⟩:=hh j hj;rw[cell?_eq,hcell]at e1;refine⟨e1,e2, ?_⟩;obtain⟨q1,q2,q3⟩:=r1 j _ (hrow j hj);grind [RepP,List.length_pos_iff,we])
 intro Kc Qc next
 unfold Oper.wp;rw[hrun,Oper.upon_enter,hv,had];rw[show(⟨[Value.slice (some ⟨(ι id).B,(ι id).off,none⟩) L.length cap,Value.func (.func g) ⟨[]⟩ ⟨[]⟩]⟩:Array Value)= #[Value.slice (some ⟨(ι id).B,(ι id).off,none⟩) L.length cap,Value.func (.func g) #[] #[]]from rfl];refine key.mono ?_;rintro e w' ⟨rfl,s,hs,es,p1,p2,p3,p4,p5,p6,cs',hcell',hsz,hcs'⟩;have sl:s.length=L.length:=by rw[hs.length_eq,List.length_range]
 have slt:∀{j},j<L.length->s.getD j 0<L.length:=λ{j} hj=>by
  grind [List.getElem_mem]
 have snd:s.Nodup:=hs.nodup_iff.2 List.nodup_range;have sinj:∀{i j},i<L.length->j<L.length->i≠j->s.getD i 0≠s.getD j 0:=λ{i j} hi hj hne e=>by
  grind [List.pairwise_iff_getElem]
 let l':Loc:=⟨(ι id).B,(ι id).off,(ι id).cap,L.length+L.length,λr=>if r<L.length then(ι id).inn r else(ι id).inn (s.getD (r-L.length) 0)⟩;let b':Blk:=.deep m (canonS L.length) (List.replicate L.length none++(srt L).map λl=>some (l.map (PV.int .i64)));have esub:∀j,l'.sub (L.length+j)=(ι id).sub (s.getD j 0):=λj=>by
  grind [Loc.sub]
 have hget:∀{r c},(List.replicate L.length none++(srt L).map λl=>some (l.map (PV.int .i64)))[r]? =some (some c)->∃j,r=L.length+j/\j<L.length/\c=(L.getD (s.getD j 0) []).map (PV.int .i64):=λ{r c} hr=>by
  rw[zE5]at hr;split at hr
  .grind
  .rename_i hge
   rw[List.length_replicate]at hge hr;have hjl:r-L.length<L.length:=by
    grind
   refine⟨r-L.length,by omega,hjl, ?_⟩;rw[es,List.map_map,zA5,zA1 (by omega)]at hr;simp only[zE4,Function.comp,zF2]at hr;rw[<-hr,zA0 (l:=s),zA1 (by omega)];rfl
 have ownB:∀B,owns b' l' B->owns (S.h id) (ι id) B:=λB ho=>by
  rw[hblk];rcases ho with ho|⟨r,c,hr,hne,rfl⟩
  .exact .inl ho
  .obtain⟨j,rfl,hj,rfl⟩:=hget hr
   rw[esub]at hne |-
   exact .inr ⟨_,_,hrow _ (slt hj),hne,rfl⟩
 have W:=h.heap.writeS (w':=w') (h':=updH S.h id b') (ι':=aE ι id l') (k:=id) (λi=>i=id) (λi _ hne=>by grind [updH,aE])
  (λi hX hne=>absurd hX hne) (λB hB hno=>p6 B hB λe=>hno id rfl (by rw[hblk,e];exact .inl ⟨hc0,rfl⟩))
  (λB ho=>.inr ⟨id,rfl,ownB B (by grind [updH,aE]),λhne=>absurd rfl hne⟩)
  (λst i hid2=>by
   obtain rfl:i=id:=by omega
   simp only[updH,aE,zH3];have hold:∀B,owns (S.h i) (ι i) B->B≠(ι i).B->w'.heap[B]? =w.heap[B]? :=λB ho hne=>p6 B ((h.heap.ok i).lt ho) hne;refine⟨by simp[l',es,sl],⟨by grind [canonS],l2,.inr ⟨⟨cs',E,lo,hi,hcell',by rw[hsz];exact hfit,by rw[hsz];exact hfr⟩,horg,λj x hx=> ?_⟩⟩,λr c hr=> ?_,λr c r' c' hr hr' hne=> ?_,λr c hr=> ?_⟩
   .have hj:j<L.length:=by grind [canonS]
    rw[wP,zB0 hj]at hx;cases hx
    have e9:=hh _ (slt hj);refine⟨hdr (s.getD j 0),by grind [cell?_eq],e9.2.1,by simp[es,sl];omega,λc hc=> ?_⟩;grind [zB2]
   .obtain⟨j,rfl,hj,rfl⟩:=hget hr
    rw[esub];have q:=r1 _ _ (hrow _ (slt hj));refine rowOk.tr st (λ_ _ _ h=>h) (λhne=>hold _ (by rw[hblk];exact .inr ⟨_,_,hrow _ (slt hj),hne,rfl⟩) ?_) (λ_ h=>h) q;grind
   .obtain⟨j,rfl,hj,rfl⟩:=hget hr
    obtain⟨j',rfl,hj',rfl⟩:=hget hr';grind
   .obtain⟨j,rfl,hj,rfl⟩:=hget hr
    grind)
 obtain⟨ok,hh2,st⟩:=W;refine next _ _ _ (aE ι id l') hk ?_
 rw[bV];have eh:updH S.h id b'=hwsH S.h [(id,b')]:=by rw[fq]
 rw[eh]at ok st;have hM:∀k,k<w0.heap.size->¬M k->k≠(ι id).B:=λk hk hMk e=>by
  rcases horg with⟨q,_⟩|⟨_,q⟩
  .omega
  .exact hMk (e▸q)
 have hBs:w0.heap.size<=w.heap.size:=h.keep.size;have keepW:Keep w0 w' M:=⟨p1.trans h.keep.os,p2.trans h.keep.tape,p3.trans h.keep.output,by omega,λk hk hMk=>(p6 k (by omega) (hM k hk hMk)).trans (h.keep.block k hk hMk),λq=>zE0 (h.keep.drawn q) p5⟩;have h2:=h.stepK (A':=gh A k) (λi hi=>.inl hi) keepW ok st (λi hi=>by
  by_cases e:i=id
  .subst e
   simp only[aE,zH3];refine⟨rfl,rfl,rfl,by grind,λr hr=> ?_⟩;grind
  grind [aE,LocEq.refl]) (λi hi=>by
  have hne2:i≠id:=λe=>hi (.inl (e▸hid));rw[fq];simp only[updH,hne2,zE3];exact h.alloc i λhA=>hi (.inl hA))
 exact h2.put o.dst hd (v:=.p .any) (by simp only[RepA,RepP]) (by simp[AV.has])
theorem IY{o:Oper}(h:Rel w0 nA nt M G ι0 A w S ι a)(hd:∀d,o.dst=some d->d<nt)
  (hrun:∀fn,P.funcs[f]? =some fn->fn.body.isSome=true->(fn.name== "runtime.NumGoroutine")=false->(execOp a.eval o).run P w=.ok (.enter f ⟨vals⟩) w)
  (hvs:RepAL w (Held S.h ι) G ι vs vals) (hnamed:∀i,AV.hasL vs i=true->A i) (hK:oC P S.h f vs K):Does P w0 nA nt M G ι0 A k o w S a K:=by
 unfold oC at hK;split at hK
 .rename_i id off len
  simp only[RepAL]at hvs;obtain⟨v,vs',rfl,hx,rfl⟩:=hvs;obtain⟨ad,cap,hv,hl,hcap,hm,hc⟩:=cS hx;have hid:A id:=hnamed id (by simp[AV.hasL,AV.has]);split at hK
  .rename_i m c hblk
   obtain⟨hle,g,⟨⟨fn,hf1,hf2,hf3⟩,hg,hE,hF⟩,l,hcl,hk⟩:=hK;have hrun:=hrun fn hf1 hf2 hf3;obtain⟨g1,g2,g3⟩:=h.heap.live id m c hblk;have hll:l.length=len:=by
    grind [zB2]
   have hgl:=hg l;intro Kc Qc next
   unfold Oper.wp;rw[hrun,Oper.upon_enter];by_cases hn0:len=0
   .subst hn0
    have hg0:g l=[]:=zA4 (by omega);rw[hv];refine(hE w ad cap).mono ?_;rintro e w' ⟨rfl,d,hdr,rfl⟩;refine next _ _ _ ι hk ?_
    rw[bV];have e1:hwsH S.h [(id,.live m (c.take off++(g l).map (PV.int .i64)++c.drop (off+0)))]=S.h:=by
     rw[fq,hg0];grind [zF0,updH]
    rw[e1];exact((h.drawn d hdr).put o.dst hd (v:=.p .any) (by simp only[RepA,RepP]) (by simp[AV.has])).mono λi hi=>.inl hi
   .have hc1:c≠[]:=by grind
    have hcap1:(ι id).cap≠0:=by omega
    rcases hc with hc|rfl
    .omega
    rcases g3 with g3|⟨⟨cs,E,lo,hi',hcell,hroom,hfr⟩,hrepc,gx⟩
    .exact absurd g3 hcap1
    .rw[aY]at hrepc
     have hcs:∀(j:Nat) (x:Int),l[j]? =some x->cs[(ι id).off+off+j]? =some (.int .i64 x):=λj x hj=>by
      have h1:((c.drop off).take len)[j]? =some (PV.int .i64 x):=by grind
      grind [RepP,cell?_eq]
     rw[hv,<-hll];refine(hF w (ι id).B ((ι id).off+off) cap l cs E lo hi' hcell (by omega) (hfr.imp_right And.right) (by omega) hcs).mono ?_;rintro e w' ⟨rfl,d,hdr,rfl⟩;refine next _ _ _ ι hk ?_
     rw[bV];have hwr:Wrote w (w.setRow (ι id).B (cs.toList.take ((ι id).off+off)++(g l).map (Value.int .i64)++cs.toList.drop ((ι id).off+off+l.length)).toArray) (ι id).B _:=Wrote.setRow hcell (by simp;omega);have hBk:w0.heap.size<=(ι id).B\/M (ι id).B:=by
      grind
     have W:=h.heap.write (k:=id) (c':=c.take off++(g l).map (PV.int .i64)++c.drop (off+len)) hblk (.inl rfl) hcap1 hwr (ι id).off (ι id).cap (ι id).n (ι id).inn (zB1 _) rfl (by simp;omega) (by
      intro j y' hj;have htk:(cs.toList.take ((ι id).off+off)).length=(ι id).off+off:=by simp;omega
      have htc:(c.take off).length=off:=by simp;omega
      rw[zH8];rw[zA7,zE5]at hj;rw[zA7,zE5];split at hj
      .grind [cell?_eq]
      .rename_i hge
       rw[htc]at hj hge;rw[zA8 (by omega),htk,show(ι id).off+j-((ι id).off+off)=j-off from by omega];rw[zE5]at hj |-
       split at hj
       .rename_i hlt
        simp only[zB2]at hlt;rw[zB0 (by grind),zA5];rw[zA5]at hj;cases hy:(g l)[j-off]? with
        |none=>rw[hy]at hj;cases hj
        |some y=>
         rw[hy]at hj;cases hj
         exact⟨.int .i64 y,rfl,rfl,by simp only[RepP]⟩
       .rename_i hge2
        simp only[zB2]at hge2 hj;rw[zA8 (by rw[zB2];exact hge2),zB2,zG0];rw[zG0]at hj;obtain⟨v,hv1,hv2,hv3⟩:=hrepc _ y' hj;rw[cell?_eq,hcell]at hv1;refine⟨v, ?_,hv2,hv3⟩;rw[hgl,hll,show(ι id).off+off+len+(j-off-len)=(ι id).off+(off+len+(j-off-len))from by omega];rw[hgl,hll]at hv1;simpa using hv1)
     obtain⟨ok,hh,st⟩:=W;have eι:aE ι id ⟨(ι id).B,(ι id).off,(ι id).cap,(ι id).n,(ι id).inn⟩=ι:=kb;have eh:updH (updH S.h id .dead) id (.live m (c.take off++(g l).map (PV.int .i64)++c.drop (off+len)))=hwsH S.h [(id,.live m (c.take off++(g l).map (PV.int .i64)++c.drop (off+len)))]:=by
      rw[fq];funext j;simp only[updH];split<;>rfl
     rw[eι,eh]at ok st;have h2:=h.stepK (A':=gh A k) (λi hi=>.inl hi) (hwr.keep hBk h.keep) ok st (λi hi=>LocEq.refl _) (λi hi=>by
      have hne2:i≠id:=λe=>hi (.inl (e▸hid));rw[fq];simp only[updH,hne2,zE3];exact h.alloc i λhA=>hi (.inl hA))
     exact(h2.drawn d (by rw[hwr.drawn];exact hdr)).put o.dst hd (v:=.p .any) (by simp only[RepA,RepP]) (by simp[AV.has])
  .exact hK.elim
 .rename_i id len g
  split at hK
  .rename_i m cs0 rs0 hblk
   obtain⟨L,h0,hL1,hL2,rfl,rfl,rfl,srt,⟨⟨fn,hf1,hf2,hf3⟩,hS⟩,hk⟩:=hK;exact NX h hd (hrun fn hf1 hf2 hf3) hvs (hnamed id (by simp[AV.hasL,AV.has])) hblk h0 hL1 hL2 hS hk
  .exact hK.elim
 .exact hK.elim
theorem wE{o:Oper}(h:Rel w0 nA nt M G ι0 A w S ι a)(hd:∀d,o.dst=some d->d<nt)(hA:∀x,x<256->¬A (k+x))
  (hrun:∀fn,P.funcs[f]? =some fn->fn.body.isSome=true->(fn.name== "runtime.NumGoroutine")=false->(execOp a.eval o).run P w=.ok (.enter f ⟨vals⟩) w)
  (hvs:RepAL w (Held S.h ι) G ι vs vals) (hnamed:∀i,AV.hasL vs i=true->A i) (hK:qk P sg S.h k f vs K):Does P w0 nA nt M G ι0 A k o w S a K:=by
 unfold qk at hK;split at hK
 .exact Fo h hd hA hrun hvs hnamed hK
 .exact IY h hd hrun hvs hnamed hK
end
section
variable {P:Program}{sg:FuncId->List Bool}{w0:World}{nA nt:Nat}{M G:Nat->Prop}{ι0:Nat->Loc}{A:Nat->Prop}{w:World}{S:St}{ι:Nat->Loc}{a:Act}
variable [AmbOk w0 M]
theorem yy{o:Oper}{f:Operand}{args:List Operand}{ts:Array TypeId}(ho:o.op=.call {callee:=.value f,args:=⟨args⟩,argTypes:=ts})(hf:a.eval f=.func (.func g) ⟨first⟩ ⟨caps⟩):
  ∀fn,P.funcs[g]? =some fn->fn.body.isSome=true->(fn.name== "runtime.NumGoroutine")=false->(execOp a.eval o).run P w=.ok (.enter g ⟨first++args.map a.eval++caps⟩) w:=by
 intro fn h1 h2 h3;have h3':¬fn.name= "runtime.NumGoroutine" :=by simpa using h3
 have h4:¬fn.body=none:=by intro e;simp[e]at h2
 simp[execOp,ho,resolve,hf,Deferred.ofValue,invoke,callFunc,h1,h3',h4]
theorem Mb{o:Oper}(h:Rel w0 nA nt M G ι0 A w S ι a)(hd:∀d,o.dst=some d->d<nt)(hA:∀x,x<256->¬A (k+x))
  (hK:lH P sg (Gl.BH S) S.h k o.op K):Does P w0 nA nt M G ι0 A k o w S a K:=by
 unfold lH at hK;split at hK
 .rename_i ho;exact yA h hd hA (.inl ho) hK
 .rename_i ho;exact yA h hd hA (.inr ho) hK
 .rename_i ho;exact IV h hd hA ho hK
 .rename_i ho;exact Ob h hd ho hK
 .rename_i ho;exact Tj h hd ho hK
 .rename_i ho;exact Ay h hd hA ho hK
 .rename_i ho;exact wA h hd hA ho hK
 .rename_i ho;exact ux h hd hA ho hK
 .rename_i ho;exact Fi h hd hA ho hK
 .rename_i ho;exact wB h hd ho hK
 .rename_i ho;exact Fk h hd ho hK
 .rename_i ho;exact IX h hd ho hK
 .rename_i ho;exact Fh h hd ho hK
 .rename_i ho;exact Fq h hd hA ho hK
 .rename_i ho;exact Oa h hd hA ho hK
 .rename_i ho;exact Fp h hd ho hK
 .rename_i ho;exact does_field h hd hA ho hK
 .rename_i ho;exact wC h hd ho hK
 .rename_i ho;exact Ax h hd hA ho hK
 .rename_i ho;exact xF h hd ho hK
 .rename_i ho;exact Aw h hd hA ho hK
 .rename_i ho;exact Da h hd ho hK
 .rename_i ho;exact tX h hd (.inl ho) hK
 .rename_i ho;exact tX h hd (.inr ho) hK
 .rename_i ho;exact xG h hd ho hK
 .rename_i ho;exact NY h hd ho hK
 .rename_i ho;exact Dd h hd hA ho hK
 .rename_i ho;exact Hk (b:=true) h hd ho hK
 .rename_i ho;exact Hk (b:=false) h hd ho hK
 .rename_i ho;exact NZ h hd ho hK
 .rename_i ho;exact wD h hd ho hK
 .rename_i f args ts ho
  have hf:=h.opd f;have nf:=h.opd_named f;split at hK
  .rename_i g first caps e
   rw[e]at hf;simp only[RepA,RepP]at hf;obtain⟨b,c,hv,h1,h2⟩:=hf;refine wE h hd hA (yy ho hv) ?_ ?_ hK
   .exact i8 (i8 (RepAL_p.2 h1) (h.opds args)) (RepAL_p.2 h2)
   .intro i hi
    rw[hasL_append,hasL_append]at hi;simp only[zI8]at hi;rcases hi with(hi|hi)|hi
    .simp[hasL_p]at hi
    .exact h.opds_named args i hi
    .simp[hasL_p]at hi
  .rename_i g first caps e
   rw[e]at hf nf;simp only[RepA]at hf;obtain⟨b,c,hv,h1,h2⟩:=hf;refine wE h hd hA (yy ho hv) ?_ ?_ hK
   .exact i8 (i8 h1 (h.opds args)) h2
   .intro i hi
    rw[hasL_append,hasL_append]at hi;simp only[zI8]at hi;rcases hi with(hi|hi)|hi
    .exact nf i (by simp[AV.has,hi])
    .exact h.opds_named args i hi
    .exact nf i (by simp[AV.has,hi])
  .exact hK.elim
 .exact hK.elim
 where
 hasL_append:∀{xs ys:List AV} {i:Nat},AV.hasL (xs++ys) i=(AV.hasL xs i||AV.hasL ys i)
  |[],_,_=>by simp[AV.hasL]
  |x::xs,ys,i=>by simp[AV.hasL,hasL_append (xs:=xs),Bool.or_assoc]
 hasL_p:∀{xs:List PV} {i:Nat},AV.hasL (xs.map .p) i=false
  |[],_=>by simp[AV.hasL]
  |x::xs,i=>by simp[AV.hasL,AV.has,hasL_p (xs:=xs)]
theorem BI{o:Oper}(h:Rel w0 nA nt M G ι0 A w S ι a)(hd:∀d,o.dst=some d->d<nt)(hA:∀x,x<256->¬A (k+x))
  (hK:pg P sg (Gl.BH S) S.h k o.op K):Does P w0 nA nt M G ι0 A k o w S a K:=by
 unfold pg at hK;split at hK
 .unfold Rb at hK
  split at hK
  .rename_i ho;exact Ja h hd ho hK
  .rename_i ho;exact CZ h hd ho hK
  .rename_i ho;exact wD h hd ho hK
  .rename_i ho;exact Hj h hd (.inl ho) hK
  .rename_i ho;exact Hj h hd (.inr ho) hK
  .exact hK.elim
 .split at hK
  .exact Ma h hd hA hK
  .exact Mb h hd hA hK
theorem qV{o:Oper}(h:Rel w0 nA nt M G ι0 A w S ι a)(hg:fC ops S o yes no):
  (Region.wanted o (yielded ops a.tmps)=true/\yes)\/(Region.wanted o (yielded ops a.tmps)=false/\no):=by
 unfold fC at hg;unfold Region.wanted;split at hg
 .rename_i e;rw[e];exact .inl ⟨rfl,hg⟩
 .rename_i j want e
  rw[e];split at hg
  .rename_i d hd
   unfold Js at hg;split at hg
   .rename_i b hb
    have hs:=h.slots d;rw[hb]at hs;have hs:=mq hs;have ht:a.tmps[d]? =some (.bool b):=by
     rw[Array.getD_eq_getD_getElem?]at hs;cases hq:a.tmps[d]? with
     |none=>rw[hq]at hs;simp[undef]at hs
     |some v=>rw[hq]at hs;simp at hs;rw[hs]
    have hy:yielded ops a.tmps j=some b:=by
     unfold yielded;rw[hd];simp[ht]
    by_cases hw:b=want
    .exact .inl ⟨by simp[hy,hw],hg.1 hw⟩
    .exact .inr ⟨by simp[hy,hw],hg.2 hw⟩
   .rename_i hb
    have hs:=h.slots d;rw[hb]at hs;simp only[RepA,RepAL]at hs;obtain⟨cs,hs,rfl⟩:=hs;have hy:yielded ops a.tmps j=none:=by
     unfold yielded;rw[hd];rw[Array.getD_eq_getD_getElem?]at hs;cases hq:a.tmps[d]? with
     |none=>simp[hq]
     |some v=>rw[hq]at hs;simp at hs;simp[hq,hs]
    exact .inr ⟨by simp[hy],hg⟩
   .exact hg.elim
  .exact hg.elim
def jW(n0 i:Nat):Nat->Prop:=λid=>id<tc n0 i
theorem qz(h:rI nt ops=true){i:Nat}{o:Oper}(ho:ops[i]? =some o):(∀d,o.dst=some d->d<nt)/\∀e∈o.after,Region.binds .any e=true->e.on<i:=by
 unfold rI at h;have hm:(o,i)∈ops.toList.zipIdx:=by
  rw[List.mem_iff_getElem?];exact⟨i,by simp[List.getElem?_zipIdx,ho]⟩
 have:=zC8.1 h _ hm;simp only[zB9]at this;refine⟨λd hd=> ?_,λe he hb=> ?_⟩
 .have h1:=this.1;rw[hd]at h1;simpa using h1
 .have h2:=this.2
  rw[Array.all_eq_true']at h2;have:=h2 e he;simpa[hb]using this
theorem Rel.nx(h:Rel w0 nA nt M G ι0 A w S ι a)(k:Nat):Rel w0 nA nt M G ι0 A w (S.nx k) ι a:=⟨h.keep,h.heap,h.slots,h.alloc,h.named,h.loc,h.args,h.new,h.size,h.defers⟩
theorem Rel.skip(h:Rel w0 nA nt M G ι0 A w S ι a)(d:Option Nat)(hd:∀x,d=some x->x<nt):Rel w0 nA nt M G ι0 A w (S.puto d (.tup [])) ι (a.put d undef):=
 h.put d hd (by simp only[RepA,RepAL];exact⟨[],rfl,rfl⟩) (by simp[AV.has,AV.hasL])
theorem Et(hreg:rI nt ops=true)(n0:Nat){Q:Exit->Act->World->Prop}{K:St->Prop}:∀(os:List Oper) (i:Nat) (S:St) (a:Act) (w:World) (ι:Nat->Loc),ops.toList.drop i=os->i<=ops.size->
  Rel w0 nA nt M G ι0 (jW n0 i) w S ι a->rR P sg ops n0 os i S K->(∀S' a' w' ι',K S'->Rel w0 nA nt M G ι0 (jW n0 ops.size) w' S' ι' a'->Q .normal a' w')->
  wpOps P ops Q (List.range' i os.length) a w:=by
 intro os
 induction os with
 |nil=>
  intro i S a w ι hd hle h hK hQ;have hi:ops.size<=i:=by simpa using hd
  simp only[List.length_nil,List.range'_zero,wpOps];obtain rfl:i=ops.size:=by omega
  exact hQ S a w ι hK h
 |cons o os ih=>
  intro i S a w ι hd hle h hK hQ;have ho:ops[i]? =some o:=by
   have:=zB5 (·[0]?) hd;simp only[zG0,zF3,Nat.add_zero]at this;simpa using this
  have hd':ops.toList.drop (i+1)=os:=by
   have:=zB5 (List.drop 1) hd;simpa[zI4,Nat.add_comm]using this
  obtain⟨hdst,_⟩:=qz hreg ho;have hle':i+1<=ops.size:=(zC7.1 ho).1;have hgi:∀id,jW n0 i id->jW n0 (i+1) id:=λid hid=>by simp only[jW,tc]at hid |-;omega
  have hA:∀x,x<256->¬jW n0 i (tc n0 i+x):=λx _=>by simp only[jW,tc];omega
  have hpl:∀id,gh (jW n0 i) (tc n0 i) id->jW n0 (i+1) id:=λid hid=>by
   simp only[gh,jW,tc]at hid |-;omega
  simp only[zC1,List.range'_succ,wpOps,ho];rcases qV h hK with⟨hw,hK⟩|⟨hw,hK⟩
  .rw[hw]
   simp only[zH3];refine .inl (BI h hdst hA hK _ _ λr val w' ι' hk hrel=> ?_);exact ih (i+1) _ _ _ ι' hd' hle' (hrel.mono hpl) hk hQ
  .rw[hw]
   simp only[Bool.false_eq_true,zE3];exact ih (i+1) _ _ _ ι hd' hle' ((h.skip o.dst hdst).mono hgi) hK hQ
end
def cU(C:(Nat->Blk)->(R->Prop)->Prop)(h:Nat->Blk):Prop:=
 ∀K,C h K->∃r,K r/\∀h',(∀id∈r.rd,h' id=h id)->∀K':R->Prop,K' r->C h' K'
theorem nh:cU (λ_ K=>qm k v K) h:=by
 intro K hK;unfold qm at hK;split at hK
 .exact⟨_,hK,λh' _ K' hk=>hk⟩
 .rename_i hv
  refine⟨_,hK,λh' _ K' hk=> ?_⟩;unfold qm;split
  .exact absurd rfl (hv _)
  .exact hk
theorem NG{c b:AV}:cU (λ_ K=>my c a b λv=>qm k v K) h:=by
 intro K hK;unfold my at hK;split at hK
 .rename_i t
  split at hK
  .obtain⟨r,hr,hf⟩:=nh (h:=h) K hK
   exact⟨r,hr,λh' hh K' hk=>by unfold my;exact hf h' hh K' hk⟩
  .rename_i hv
   obtain⟨r,hr,hf⟩:=nh (h:=h) K hK;refine⟨r,hr,λh' hh K' hk=> ?_⟩;unfold my;simp only;first
    |exact hf h' hh K' hk
    |(split<;>first|exact absurd rfl (hv _ _ rfl)|exact hf h' hh K' hk)
 .exact hK.elim
theorem CO{K:Bool->Prop}(hK:BR x K):∃b,K b/\∀K':Bool->Prop,K' b->BR x K':=by
 cases x with
 |p v=>
  cases v with
  |nl=>exact⟨_,hK,λK' hk=>hk⟩
  |sl o xs=>
   cases o with
   |own=>exact⟨_,hK,λK' hk=>hk⟩
   |ro=>exact⟨_,hK.2,λK' hk=>⟨hK.1,hk⟩⟩
   |fr=>exact⟨_,hK.2,λK' hk=>⟨hK.1,hk⟩⟩
  |_=>exact hK.elim
 |ref _ _ _=>exact⟨_,hK.2,λK' hk=>⟨hK.1,hk⟩⟩
 |inn _ _ _ _=>exact⟨_,hK.2,λK' hk=>⟨hK.1,hk⟩⟩
 |_=>exact hK.elim
theorem OJ{K:PV->Prop}(h:HK P t/\BR x λb=>K (.bool b)):jr P .eql t x (.p (.sl .own ys)) K:=by
 cases x with
 |p v=>cases v<;>exact h
 |_=>exact h
theorem OI{K:PV->Prop}(h:HK P t/\BR x λb=>K (.bool (!b))):jr P .neq t x (.p (.sl .own ys)) K:=by
 cases x with
 |p v=>cases v<;>exact h
 |_=>exact h
theorem SN{op:BinOp}:cU (λ_ K=>jr P op t x y λv=>K ⟨.p v,[],[]⟩) h:=by
 intro K hK;unfold jr at hK;split at hK
 .split at hK
  all_goals first
   |exact hK.elim
   |exact⟨_,hK.2.2,λh' _ K' hk=>⟨hK.1,hK.2.1,hk⟩⟩
   |exact⟨_,hK.2.2.2,λh' _ K' hk=>⟨hK.1,hK.2.1,hK.2.2.1,hk⟩⟩
   |exact⟨_,hK.2,λh' _ K' hk=>⟨hK.1,hk⟩⟩
   |exact⟨_,hK.2.2.2.2.2,λh' _ K' hk=>⟨hK.1,hK.2.1,hK.2.2.1,hK.2.2.2.1,hK.2.2.2.2.1,hk⟩⟩
 .split at hK
  all_goals first
   |exact hK.elim
   |exact⟨_,hK.2,λh' _ K' hk=>⟨hK.1,hk⟩⟩
   |exact⟨_,hK,λh' _ K' hk=>hk⟩
 .split at hK
  all_goals first
   |exact hK.elim
   |exact⟨_,hK.2,λh' _ K' hk=>⟨hK.1,hk⟩⟩
 .split at hK
  .obtain⟨b,hb,f⟩:=CO hK.2
   exact⟨_,hb,λh' _ K' hk=>OJ ⟨hK.1,f _ hk⟩⟩
  .obtain⟨b,hb,f⟩:=CO hK.2
   exact⟨_,hb,λh' _ K' hk=>OI ⟨hK.1,f _ hk⟩⟩
  .exact hK.elim
 .exact hK.elim
theorem YE{op:UnOp}:cU (λ_ K=>T4 op x λv=>K ⟨.p v,[],[]⟩) h:=by
 intro K hK;unfold T4 at hK;split at hK
 .exact⟨_,hK,λh' _ K' hk=>hk⟩
 .exact⟨_,hK.2,λh' _ K' hk=>⟨hK.1,hk⟩⟩
 .exact hK.elim
theorem CP{K:List PV->List Nat->Prop}(hK:oP h v K):∃xs rd,K xs rd/\(∀j off len,v=.ref j off len->j∈rd)/\∀h',(∀id∈rd,h' id=h id)->∀K':List PV->List Nat->Prop,K' xs rd->oP h' v K':=by
 unfold oP at hK;split at hK
 .exact⟨_,_,hK,(λ_ _ _ e=>by cases e),λh' _ K' hk=>hk⟩
 .exact⟨_,_,hK,(λ_ _ _ e=>by cases e),λh' _ K' hk=>hk⟩
 .split at hK
  .rename_i e;exact⟨_,_,hK.2,(λ_ _ _ e=>by cases e;simp),λh' hh K' hk=>by unfold oP;simp only[hh _ (zB7.2 rfl),e];exact⟨hK.1,hk⟩⟩
  .rename_i e;exact⟨_,_,hK.2,(λ_ _ _ e=>by cases e;simp),λh' hh K' hk=>by unfold oP;simp only[hh _ (zB7.2 rfl),e];exact⟨hK.1,hk⟩⟩
  .exact hK.elim
 .split at hK
  .rename_i e
   split at hK
   .rename_i er
    exact⟨_,_,hK.2,(λ_ _ _ e=>by cases e),λh' hh K' hk=>by unfold oP;simp only[hh _ (zB7.2 rfl),e,er];exact⟨hK.1,hk⟩⟩
   .exact hK.elim
  .exact hK.elim
 .exact hK.elim
theorem As{K:PV->List (Nat×Blk)->List Nat->Prop}(hK:Ek h v K):∃x ws rd,K x ws rd/\∀h',(∀id∈rd,h' id=h id)->∀K':PV->List (Nat×Blk)->List Nat->Prop,K' x ws rd->Ek h' v K':=by
 unfold Ek at hK;split at hK
 .exact⟨_,_,_,hK.2,λh' _ K' hk=>⟨hK.1,hk⟩⟩
 .split at hK
  .rename_i e;exact⟨_,_,_,hK.2,λh' hh K' hk=>by unfold Ek;simp only[hh _ (zB7.2 rfl),e];exact⟨hK.1,hk⟩⟩
  .rename_i e;exact⟨_,_,_,hK.2,λh' hh K' hk=>by unfold Ek;simp only[hh _ (zB7.2 rfl),e];exact⟨hK.1,hk⟩⟩
  .exact hK.elim
 .exact hK.elim
theorem wo{h:Nat->Blk}:∀{vs:List AV} {K:List PV->List (Nat×Blk)->List Nat->Prop},nQ h vs K->∃xs ws rd,K xs ws rd/\∀h',(∀id∈rd,h' id=h id)->∀K':List PV->List (Nat×Blk)->List Nat->Prop,K' xs ws rd->nQ h' vs K'
 |[],K,hK=>⟨_,_,_,hK,λh' _ K' hk=>hk⟩
 |v::vs,K,hK=>by
  simp only[nQ]at hK;obtain⟨x,ws,rd,hK,f1⟩:=As hK;obtain⟨xs,ws',rd',hK,f2⟩:=wo hK;refine⟨_,_,_,hK,λh' hh K' hk=> ?_⟩;simp only[nQ];exact f1 h' (λid hid=>hh id (by simp[hid])) _ (f2 h' (λid hid=>hh id (by simp[hid])) _ hk)
theorem CN{K:PV->List Nat->Prop}(hK:mY h v K):∃x rd,K x rd/\∀h',(∀id∈rd,h' id=h id)->∀K':PV->List Nat->Prop,K' x rd->mY h' v K':=by
 unfold mY at hK;split at hK
 .exact⟨_,_,hK,λh' _ K' hk=>hk⟩
 .split at hK
  .rename_i e;exact⟨_,_,hK.2,λh' hh K' hk=>by unfold mY;simp only[hh _ (zB7.2 rfl),e];exact⟨hK.1,hk⟩⟩
  .rename_i e;exact⟨_,_,hK.2,λh' hh K' hk=>by unfold mY;simp only[hh _ (zB7.2 rfl),e];exact⟨hK.1,hk⟩⟩
  .rename_i e;exact⟨_,_,hK.2,λh' hh K' hk=>by unfold mY;simp only[hh _ (zB7.2 rfl),e];exact⟨hK.1,hk⟩⟩
  .exact hK.elim
 .split at hK
  .rename_i e;exact⟨_,_,hK,λh' hh K' hk=>by unfold mY;simp only[hh _ (zB7.2 rfl),e];exact hk⟩
  .rename_i e;exact⟨_,_,hK,λh' hh K' hk=>by unfold mY;simp only[hh _ (zB7.2 rfl),e];exact hk⟩
  .rename_i e;exact⟨_,_,hK,λh' hh K' hk=>by unfold mY;simp only[hh _ (zB7.2 rfl),e];exact hk⟩
  .exact hK.elim
 .split at hK
  .rename_i e
   split at hK
   .rename_i er
    exact⟨_,_,hK.2,λh' hh K' hk=>by unfold mY;simp only[hh _ (zB7.2 rfl),e,er];exact⟨hK.1,hk⟩⟩
   .exact hK.elim
  .exact hK.elim
 .exact hK.elim
theorem pt{h:Nat->Blk}:∀{vs:List AV} {K:List PV->List Nat->Prop},gH h vs K->∃xs rd,K xs rd/\∀h',(∀id∈rd,h' id=h id)->∀K':List PV->List Nat->Prop,K' xs rd->gH h' vs K'
 |[],K,hK=>⟨_,_,hK,λh' _ K' hk=>hk⟩
 |v::vs,K,hK=>by
  simp only[gH]at hK;obtain⟨x,rd,hK,f1⟩:=CN hK;obtain⟨xs,rd',hK,f2⟩:=pt hK;refine⟨_,_,hK,λh' hh K' hk=> ?_⟩;simp only[gH];exact f1 h' (λid hid=>hh id (by simp[hid])) _ (f2 h' (λid hid=>hh id (by simp[hid])) _ hk)
theorem SJ{K:PV->List Nat->Prop}(hK:Ej h v K):∃x rd,K x rd/\∀h',(∀id∈rd,h' id=h id)->∀K':PV->List Nat->Prop,K' x rd->Ej h' v K':=by
 unfold Ej at hK;split at hK
 .obtain⟨xs,rd,hK,f⟩:=pt hK
  exact⟨_,_,hK,λh' hh K' hk=>by unfold Ej;exact f h' hh _ hk⟩
 .obtain⟨xs,rd,hK,f⟩:=pt hK
  obtain⟨ys,rd',hK,f'⟩:=pt hK;exact⟨_,_,hK,λh' hh K' hk=>by unfold Ej;exact f h' (λid hid=>hh id (by simp[hid])) _ (f' h' (λid hid=>hh id (by simp[hid])) _ hk)⟩
 .rename_i h1 h2
  obtain⟨x,rd,hK,f⟩:=CN hK;refine⟨_,_,hK,λh' hh K' hk=> ?_⟩;unfold Ej;split
  .exact absurd rfl (h1 _)
  .exact absurd rfl (h2 _ _ _)
  .exact f h' hh _ hk
theorem NH:∀{vs:List AV} {sg:List Bool} {K:List Arg->List Nat->List (Option (Nat×Option Nat))->Prop},pass h sg vs K->
  ∃as rd ms,K as rd ms/\∀h',(∀i∈db ms++rd,h' i=h i)->∀K':List Arg->List Nat->List (Option (Nat×Option Nat))->Prop,K' as rd ms->pass h' sg vs K':=by
 intro vs
 induction vs with
 |nil=>
  intro sg K hK;have e:∀(h:Nat->Blk) (K:List Arg->List Nat->List (Option (Nat×Option Nat))->Prop),pass h sg [] K=K [] [] []:=by
   intro h K;cases sg with
   |nil=>rfl
   |cons b sg=>cases b<;>rfl
  rw[e]at hK;exact⟨_,_,_,hK,λh' _ K' hk=>by rw[e];exact hk⟩
 |cons v vs ih=>
  intro sg K hK;have plain:∀(sg':List Bool),(∀(h:Nat->Blk) (K:List Arg->List Nat->List (Option (Nat×Option Nat))->Prop),pass h sg (v::vs) K=Ej h v λx rd=>pass h sg' vs λas rd' ms=>K (.pv x::as) (rd++rd') (none::ms))->
    ∃as rd ms,K as rd ms/\∀h',(∀i∈db ms++rd,h' i=h i)->∀K':List Arg->List Nat->List (Option (Nat×Option Nat))->Prop,K' as rd ms->pass h' sg (v::vs) K':=by
   intro sg' e;rw[e]at hK;obtain⟨x,rd,hK,f1⟩:=SJ hK;obtain⟨as,rd',ms,hK,f2⟩:=ih hK;refine⟨_,_,_,hK,λh' hh K' hk=> ?_⟩;rw[e];refine f1 h' (λid hid=>hh id (by simp[hid])) _ (f2 h' (λid hid=>hh id ?_) _ hk);rcases zB3.1 hid with hid|hid
   .exact zB3.2 (.inl (by rw[mC];exact hid))
   .exact zB3.2 (.inr (zB3.2 (.inr hid)))
  cases sg with
  |nil=>exact plain [] λ_ _=>rfl
  |cons b sg=>
   cases b with
   |false=>exact plain sg λ_ _=>rfl
   |true=>
    simp only[pass]at hK;have tail:∀{as:List Arg} {rd:List Nat} {ms:List (Option (Nat×Option Nat))} {p:Nat×Option Nat} {h':Nat->Blk},(∀i∈db (some p::ms)++rd,h' i=h i)->∀i∈db ms++rd,h' i=h i:=by
     intro as rd ms p h' hh i hi;refine hh i ?_;rcases zB3.1 hi with hi|hi
     .exact zB3.2 (.inl (by rw[kg];exact zF1 _ hi))
     .exact zB3.2 (.inr hi)
    have head:∀{rd:List Nat} {ms:List (Option (Nat×Option Nat))} {p:Nat×Option Nat} {h':Nat->Blk},(∀i∈db (some p::ms)++rd,h' i=h i)->h' p.1=h p.1:=by
     intro rd ms p h' hh;exact hh p.1 (zB3.2 (.inl (by rw[kg];exact zH1 ..)))
    split at hK
    .rename_i id len
     split at hK
     .rename_i e
      obtain⟨hl,hK⟩:=hK;obtain⟨as,rd,ms,hK,f⟩:=ih hK;refine⟨_,_,_,hK,λh' hh K' hk=> ?_⟩;have e':=head hh;simp only at e';simp only[pass,e',e];exact⟨hl,f h' (tail (as:=as) hh) _ hk⟩
     .rename_i e
      rcases hK with⟨rows,e1,e2,hl,hK⟩|⟨rows,h0,e1,e2,hl,hK⟩
      .obtain⟨as,rd,ms,hK,f⟩:=ih hK
       refine⟨_,_,_,hK,λh' hh K' hk=> ?_⟩;have e':=head hh;simp only at e';simp only[pass,e',e];exact .inl ⟨rows,e1,e2,hl,f h' (tail (as:=as) hh) _ hk⟩
      .obtain⟨as,rd,ms,hK,f⟩:=ih hK
       refine⟨_,_,_,hK,λh' hh K' hk=> ?_⟩;have e':=head hh;simp only at e';simp only[pass,e',e];exact .inr ⟨rows,h0,e1,e2,hl,f h' (tail (as:=as) hh) _ hk⟩
     .exact hK.elim
    .rename_i id
     split at hK
     .rename_i e
      obtain⟨as,rd,ms,hK,f⟩:=ih hK;refine⟨_,_,_,hK,λh' hh K' hk=> ?_⟩;have e':=head hh;simp only at e';simp only[pass,e',e];exact f h' (tail (as:=as) hh) _ hk
     .exact hK.elim
    .rename_i id r len
     split at hK
     .rename_i e
      split at hK
      .rename_i er
       obtain⟨hl,hK⟩:=hK;obtain⟨as,rd,ms,hK,f⟩:=ih hK;refine⟨_,_,_,hK,λh' hh K' hk=> ?_⟩;have e':=head hh;simp only at e';simp only[pass,e',e,er];exact⟨hl,f h' (tail (as:=as) hh) _ hk⟩
      .exact hK.elim
     .exact hK.elim
    .obtain⟨as,rd,ms,hK,f⟩:=ih hK
     refine⟨_,_,_,hK,λh' hh K' hk=> ?_⟩;simp only[pass];exact f h' (λi hi=>hh i (by rwa [mC])) _ hk
    .exact hK.elim
theorem NN{src dst:TypeId}:cU (λh K=>mN P src dst k h x K) h:=by
 intro K hK;unfold mN at hK;split at hK
 .split at hK
  .rename_i e
   exact⟨_,hK.2.2,λh' _ K' hk=>by unfold mN;simp only[e];exact⟨hK.1,hK.2.1,hk⟩⟩
  .exact hK.elim
 .obtain⟨h1,hK⟩:=hK
  split at hK
  .rename_i e
   exact⟨_,hK,λh' _ K' hk=>by unfold mN;simp only[e,zH3];exact⟨h1,hk⟩⟩
  .rename_i e
   exact⟨_,hK.2.2.2.2,λh' _ K' hk=>by unfold mN;simp only[e];exact⟨h1,hK.1,hK.2.1,hK.2.2.1,hK.2.2.2.1,hk⟩⟩
 .rename_i e1 e2
  obtain⟨h1,h2,h3,hK⟩:=hK;obtain⟨xs,rd,⟨s,hs,hK⟩,_,f⟩:=CP hK;refine⟨_,hK,λh' hh K' hk=> ?_⟩;unfold mN;split
  .exact absurd rfl (e1 _ _)
  .exact absurd rfl (e2 _)
  .exact⟨h1,h2,h3,f h' hh _ ⟨s,hs,hk⟩⟩
theorem NK{l c:AV}:cU (λ_ K=>tO P t k l c K) h:=by
 intro K hK;unfold tO at hK;split at hK
 .obtain⟨h1,h2,h3,hK⟩:=hK
  split at hK
  .rename_i e
   exact⟨_,hK.2,λh' _ K' hk=>by unfold tO;simp only[e];exact⟨h1,h2,h3,hK.1,hk⟩⟩
  .exact hK.elim
 .exact hK.elim
theorem Hd:∀{vs:List AV} {K:List PV->Prop},HS vs K->∃xs,K xs/\∀K':List PV->Prop,K' xs->HS vs K'
 |[],K,h=>⟨[],h,λ_ h=>h⟩
 |v::vs,K,h=>by
  simp only[HS,prC]at h;split at h
  .obtain⟨h1,h2,h⟩:=h
   obtain⟨xs,hk,f⟩:=Hd h;exact⟨_,hk,λK' h'=>by simp only[HS,prC];exact⟨h1,h2,f _ h'⟩⟩
  .exact h.elim
theorem wr{n:Nat}{parts:Array (Nat×Operand)}{ρ:Operand->AV}:cU (λh K=>bP P t n parts k ρ h K) h:=by
 intro K hK;unfold bP at hK;split at hK
 .rename_i ht
  obtain⟨h1,h2,h3,hK⟩:=hK;obtain⟨xs,hK,f⟩:=Hd hK;exact⟨_,hK,λh' hh K' hk=>by show bP P t n parts k ρ h' K';unfold bP;rw[zB0 ht];exact⟨h1,h2,h3,f _ hk⟩⟩
 .rename_i ht
  obtain⟨h1,h2,h3,hK⟩:=hK;obtain⟨xs,ws,rd,hK,f⟩:=wo hK;exact⟨_,hK,λh' hh K' hk=>by show bP P t n parts k ρ h' K';unfold bP;rw[zA8 ht];exact⟨h1,h2,h3,f h' hh _ hk⟩⟩
theorem cB{ρ:Operand->AV}{x:Option Operand}{d:Nat}{K:Int->Prop}(hK:ll ρ x d K):∃i,K i/\∀K':Int->Prop,K' i->ll ρ x d K':=by
 unfold ll at hK;split at hK
 .exact⟨_,hK,λK' hk=>hk⟩
 .split at hK
  .rename_i e;exact⟨_,hK,λK' hk=>by unfold ll;simp only[e];exact hk⟩
  .exact hK.elim
theorem II{lo hi mx:Option Operand}{ρ:Operand->AV}:cU (λ_ K=>eC P t x lo hi mx k ρ K) h:=by
 intro K hK;unfold eC at hK;split at hK
 .obtain⟨h1,h2,hK⟩:=hK
  obtain⟨i,hK,f1⟩:=cB hK;obtain⟨j,hK,f2⟩:=cB hK;exact⟨_,hK.2.2.2,λh' _ K' hk=>by unfold eC;exact⟨h1,h2,f1 _ (f2 _ ⟨hK.1,hK.2.1,hK.2.2.1,hk⟩)⟩⟩
 .obtain⟨h1,hK⟩:=hK
  split at hK
  .obtain⟨i,hK,f1⟩:=cB hK
   obtain⟨j,hK,f2⟩:=cB hK;exact⟨_,hK.2.2.2,λh' _ K' hk=>by unfold eC;exact⟨h1,f1 _ (f2 _ ⟨hK.1,hK.2.1,hK.2.2.1,hk⟩)⟩⟩
  .obtain⟨h2,hK⟩:=hK
   obtain⟨i,hK,f1⟩:=cB hK;obtain⟨j,hK,f2⟩:=cB hK;obtain⟨l,hK,f3⟩:=cB hK;exact⟨_,hK.2.2.2,λh' _ K' hk=>by unfold eC;exact⟨h1,h2,f1 _ (f2 _ (f3 _ ⟨hK.1,hK.2.1,hK.2.2.1,hk⟩))⟩⟩
 .obtain⟨h1,hK⟩:=hK
  split at hK
  .obtain⟨i,hK,f1⟩:=cB hK
   obtain⟨j,hK,f2⟩:=cB hK;exact⟨_,hK.2.2.2,λh' _ K' hk=>by unfold eC;exact⟨h1,f1 _ (f2 _ ⟨hK.1,hK.2.1,hK.2.2.1,hk⟩)⟩⟩
  .obtain⟨h2,hK⟩:=hK
   obtain⟨i,hK,f1⟩:=cB hK;obtain⟨j,hK,f2⟩:=cB hK;obtain⟨l,hK,f3⟩:=cB hK;exact⟨_,hK.2.2.2,λh' _ K' hk=>by unfold eC;exact⟨h1,h2,f1 _ (f2 _ (f3 _ ⟨hK.1,hK.2.1,hK.2.2.1,hk⟩))⟩⟩
 .obtain⟨h1,hK⟩:=hK
  split at hK
  .obtain⟨i,hK,f1⟩:=cB hK
   obtain⟨j,hK,f2⟩:=cB hK;exact⟨_,hK.2.2.2,λh' _ K' hk=>by unfold eC;exact⟨h1,f1 _ (f2 _ ⟨hK.1,hK.2.1,hK.2.2.1,hk⟩)⟩⟩
  .obtain⟨h2,hK⟩:=hK
   obtain⟨i,hK,f1⟩:=cB hK;obtain⟨j,hK,f2⟩:=cB hK;obtain⟨l,hK,f3⟩:=cB hK;exact⟨_,hK.2.2.2,λh' _ K' hk=>by unfold eC;exact⟨h1,h2,f1 _ (f2 _ (f3 _ ⟨hK.1,hK.2.1,hK.2.2.1,hk⟩))⟩⟩
 .exact hK.elim
theorem qX{α:Type}{xs:List α}{i:Int}{K:α->Prop}(hK:gt xs i K):∃x,K x/\∀K':α->Prop,K' x->gt xs i K':=by
 obtain⟨h0,hK⟩:=hK;split at hK
 .rename_i x e
  exact⟨x,hK,λK' hk=>⟨h0,by simp only[e];exact hk⟩⟩
 .exact hK.elim
theorem xD{i:AV}:cU (λ_ K=>bZ P t x i λv=>K ⟨v,[],[]⟩) h:=by
 intro K hK;unfold bZ at hK;split at hK
 .split at hK
  .obtain⟨h1,hK⟩:=hK
   obtain⟨y,hK,f⟩:=qX hK;exact⟨_,hK,λh' _ K' hk=>by unfold bZ;exact⟨h1,f _ hk⟩⟩
  .exact⟨_,hK.2.2.2,λh' _ K' hk=>by unfold bZ;exact⟨hK.1,hK.2.1,hK.2.2.1,hk⟩⟩
  .exact⟨_,hK.2.2.2,λh' _ K' hk=>by unfold bZ;exact⟨hK.1,hK.2.1,hK.2.2.1,hk⟩⟩
  .split at hK
   .rename_i e
    exact⟨_,hK.2.2,λh' _ K' hk=>by unfold bZ;simp only[e];exact⟨hK.1,hK.2.1,hk⟩⟩
   .exact hK.elim
  .exact⟨_,hK.2.2.2,λh' _ K' hk=>by unfold bZ;exact⟨hK.1,hK.2.1,hK.2.2.1,hk⟩⟩
  .exact hK.elim
 .exact hK.elim
theorem IJ{i:AV}:cU (λ_ K=>oD P t x i λv=>K ⟨v,[],[]⟩) h:=by
 intro K hK;unfold oD at hK;split at hK
 .split at hK
  .obtain⟨h1,hK⟩:=hK
   obtain⟨y,hK,f⟩:=qX hK;exact⟨_,hK,λh' _ K' hk=>by unfold oD;exact⟨h1,f _ hk⟩⟩
  .exact hK.elim
 .exact hK.elim
theorem NL:cU (λh K=>gq P t h a K) h:=by
 intro K hK;unfold gq at hK;split at hK
 .rename_i et
  obtain⟨h1,hK⟩:=hK;split at hK
  .exact⟨_,hK,λh' _ K' hk=>by unfold gq;simp only[et];exact⟨h1,hk⟩⟩
  .split at hK
   .rename_i e
    obtain⟨y,hK,f⟩:=qX hK;exact⟨_,hK,λh' hh K' hk=>by unfold gq;simp only[et,hh _ (zB7.2 rfl),e];exact⟨h1,f _ hk⟩⟩
   .rename_i e
    obtain⟨y,hK,f⟩:=qX hK;exact⟨_,hK,λh' hh K' hk=>by unfold gq;simp only[et,hh _ (zB7.2 rfl),e];exact⟨h1,f _ hk⟩⟩
   .rename_i e
    obtain⟨y,hK,f⟩:=qX hK;exact⟨_,hK,λh' hh K' hk=>by unfold gq;simp only[et,hh _ (zB7.2 rfl),e];exact⟨h1,f _ hk⟩⟩
   .exact hK.elim
  .split at hK
   .rename_i e
    split at hK
    .rename_i er
     obtain⟨y,hK,f⟩:=qX hK;exact⟨_,hK,λh' hh K' hk=>by unfold gq;simp only[et,hh _ (zB7.2 rfl),e,er];exact⟨h1,f _ hk⟩⟩
    .exact hK.elim
   .exact hK.elim
  .exact hK.elim
 .rename_i et
  split at hK
  .exact⟨_,hK.2,λh' _ K' hk=>by unfold gq;simp only[et];exact⟨hK.1,hk⟩⟩
  .split at hK
   .rename_i e
    exact⟨_,hK.2,λh' hh K' hk=>by unfold gq;simp only[et,hh _ (zB7.2 rfl),e];exact⟨hK.1,hk⟩⟩
   .rename_i e
    exact⟨_,hK.2,λh' hh K' hk=>by unfold gq;simp only[et,hh _ (zB7.2 rfl),e];exact⟨hK.1,hk⟩⟩
   .rename_i e
    exact⟨_,hK.2,λh' hh K' hk=>by unfold gq;simp only[et,hh _ (zB7.2 rfl),e];exact⟨hK.1,hk⟩⟩
   .exact hK.elim
  .exact hK.elim
 .exact hK.elim
theorem yw{K:List PV->List (Nat×Blk)->List Nat->Prop}(hK:fm h v K):∃xs ws rd,K xs ws rd/\∀h',(∀id∈rd,h' id=h id)->∀K':List PV->List (Nat×Blk)->List Nat->Prop,K' xs ws rd->fm h' v K':=by
 unfold fm at hK;split at hK
 .exact⟨_,_,_,hK.2,λh' _ K' hk=>⟨hK.1,hk⟩⟩
 .obtain⟨xs,ws,rd,hK,f⟩:=wo hK
  exact⟨_,_,_,hK,λh' hh K' hk=>by unfold fm;exact f h' hh _ hk⟩
 .rename_i e1 e2
  obtain⟨x,ws,rd,hK,f⟩:=As hK;refine⟨_,_,_,hK,λh' hh K' hk=> ?_⟩;unfold fm;split
  .exact absurd rfl (e1 _)
  .exact absurd rfl (e2 _)
  .exact f h' hh _ hk
theorem IH:cU (λh K=>lR P t h a v K) h:=by
 intro K hK;unfold lR at hK;split at hK
 .rename_i et
  split at hK
  .split at hK
   .rename_i e
    obtain⟨xs,ws,rd,⟨h1,h2,h3,hK⟩,f⟩:=yw hK;refine⟨_,hK,λh' hh K' hk=> ?_⟩;unfold lR;simp only[et,hh _ (zH1 ..),e];exact f h' (λid hid=>hh id (zF1 _ hid)) _ ⟨h1,h2,h3,hk⟩
   .rename_i e
    obtain⟨xs,rs,ws,rd,⟨h1,h2,hK⟩,_,_,_,f⟩:=ng hK;refine⟨_,hK,λh' hh K' hk=> ?_⟩;unfold lR;simp only[et,hh _ (zH1 ..),e];exact f h' (λid hid=>hh id (zF1 _ hid)) _ ⟨h1,h2,hk⟩
   .exact hK.elim
  .obtain⟨h1,hK⟩:=hK
   unfold HP at hK;split at hK
   .obtain⟨h2,hK⟩:=hK
    split at hK
    .rename_i e
     split at hK
     .rename_i er
      refine⟨_,hK.2,λh' hh K' hk=> ?_⟩;unfold lR;simp only[et,HP,hh _ (zH1 ..),e,er];exact⟨h1,h2,hK.1,hk⟩
     .exact hK.elim
    .exact hK.elim
   .exact hK.elim
  .exact hK.elim
 .exact hK.elim
theorem IP:cU (λ_ K=>oU P t k K) h:=by
 intro K hK;unfold oU at hK;split at hK
 .rename_i e
  exact⟨_,hK.2.2.2,λh' _ K' hk=>by unfold oU;simp only[e];exact⟨hK.1,hK.2.1,hK.2.2.1,hk⟩⟩
 .exact hK.elim
theorem SM:cU (λh K=>OF h k v K) h:=by
 intro K hK;obtain⟨xs,ws,rd,⟨h1,h2,hK⟩,f⟩:=yw hK;exact⟨_,hK,λh' hh K' hk=>f h' hh _ ⟨h1,h2,hk⟩⟩
theorem He{xs:List AV}{i:Nat}{K:AV->Prop}(hK:AV.nth xs i K):∃x,K x/\∀K':AV->Prop,K' x->AV.nth xs i K':=by
 unfold AV.nth at hK;split at hK
 .rename_i x e
  exact⟨x,hK,λK' hk=>by unfold AV.nth;simp only[e];exact hk⟩
 .exact hK.elim
theorem IK{f:Nat}:cU (λ_ K=>qZ P t f v λv=>qm k v K) h:=by
 intro K hK;unfold qZ at hK;split at hK
 .rename_i et
  split at hK
  .obtain⟨y,hK,g⟩:=qX hK
   obtain⟨r,hr,f⟩:=nh (h:=h) K hK;exact⟨r,hr,λh' hh K' hk=>by unfold qZ;simp only[et];exact g _ (f h' hh K' hk)⟩
  .obtain⟨y,hK,g⟩:=He hK
   obtain⟨r,hr,f⟩:=nh (h:=h) K hK;exact⟨r,hr,λh' hh K' hk=>by unfold qZ;simp only[et];exact g _ (f h' hh K' hk)⟩
  .exact hK.elim
 .exact hK.elim
theorem xE{f:Nat}:cU (λ_ K=>fk P t f a λv=>K ⟨v,[],[]⟩) h:=by
 intro K hK;unfold fk at hK;split at hK
 .rename_i et
  obtain⟨h1,hK⟩:=hK;split at hK
  .exact⟨_,hK,λh' _ K' hk=>by unfold fk;simp only[et];exact⟨h1,hk⟩⟩
  .exact⟨_,hK,λh' _ K' hk=>by unfold fk;simp only[et];exact⟨h1,hk⟩⟩
  .exact hK.elim
 .exact hK.elim
theorem wq{places:List Nat}:∀{parts:List (Nat×AV)} {cells:List AV} {K:List AV->Prop},jJ places cells parts K->∃cs,K cs/\∀K':List AV->Prop,K' cs->jJ places cells parts K'
 |[],cells,K,hK=>⟨cells,hK,λK' hk=>hk⟩
 |(i,v)::rest,cells,K,hK=>by
  simp only[jJ]at hK;split at hK
  .rename_i o e
   obtain⟨h1,h2,hK⟩:=hK;obtain⟨cs,hK,f⟩:=wq hK;exact⟨cs,hK,λK' hk=>by simp only[jJ,e];exact⟨h1,h2,f _ hk⟩⟩
  .exact hK.elim
theorem IN{parts:List (Nat×AV)}:cU (λ_ K=>oS P t parts λv=>K ⟨v,[],[]⟩) h:=by
 intro K hK;unfold oS at hK;split at hK
 .rename_i e1 e2
  obtain⟨cs,hK,f⟩:=wq hK;exact⟨_,hK,λh' _ K' hk=>by unfold oS;simp only[e1,e2];exact f _ hk⟩
 .exact hK.elim
theorem EZ{t':TypeId}{s:AV}:cU (λh K=>uY P t t' h k s x K) h:=by
 rintro K ⟨h1,h2,hK⟩;by_cases hd:kS h x=true
 .rw[zB0 hd]at hK
  unfold iZ at hK;split at hK
  .rename_i j n
   split at hK
   .rename_i cs' rs' ej
    obtain⟨hn,hns,hK⟩:=hK;have dd:∀h':Nat->Blk,h' j=h j->kS h' (.ref j 0 n)=true:=λh' e=>by simp only[kS,e,ej]
    split at hK
    .rename_i id len
     obtain⟨hne,hK⟩:=hK;split at hK
     .rename_i m cs rs ei
      refine⟨_,hK.2.2.2,λh' hh K' hk=>⟨h1,h2, ?_⟩⟩;rw[zB0 (dd h' (hh j (by simp)))];simp only[iZ,hh j (by simp),ej,hh id (by simp),ei];exact⟨hn,hns,hne,hK.1,hK.2.1,hK.2.2.1,hk⟩
     .exact hK.elim
    .refine⟨_,hK.2,λh' hh K' hk=>⟨h1,h2, ?_⟩⟩
     rw[zB0 (dd h' (hh j (by simp)))];simp only[iZ,hh j (by simp),ej];exact⟨hn,hns,hK.1,hk⟩
    .exact hK.elim
   .exact hK.elim
  .exact hK.elim
 rw[zA8 hd]at hK;obtain⟨ys,rd,hK,hj,f⟩:=CP hK;have nd:∀h':Nat->Blk,(∀i∈rd,h' i=h i)->¬kS h' x=true:=λh' hh=>by
  cases x with
  |ref j off len=>
   have:kS h' (.ref j off len)=kS h (.ref j off len):=by simp only[kS,hh j (hj _ _ _ rfl)]
   rw[this];exact hd
  |_=>exact hd
 split at hK
 .rename_i id off len _
  split at hK
  .rename_i m c e
   obtain⟨h3,h4,hK⟩:=hK;have done:∀r:R,id∈r.rd->(∀i∈rd,i∈r.rd)->K r->(∀K':R->Prop,K' r->(if off+len=c.length then K' ⟨.ref k 0 (len+ys.length),[(id,.dead),(k,.live m (c.drop off++ys))],id::rd⟩
     else if off+len+ys.length<=c.length then K' ⟨.ref k off (len+ys.length),[(id,.dead),(k,.live m (c.take (off+len)++ys++c.drop (off+len+ys.length)))],id::rd⟩
     else K' ⟨.ref k 0 (len+ys.length),[(id,.dead),(k,.live m ((c.drop off).take len++ys))],id::rd⟩))->
     ∃r,K r/\∀h',(∀i∈r.rd,h' i=h i)->∀K':R->Prop,K' r->uY P t t' h' k (.ref id off len) x K':=by
    intro r hi hrd hr hk;refine⟨r,hr,λh' hh K' hk'=>⟨h1,h2, ?_⟩⟩;rw[zA8 (nd h' λi hi=>hh i (hrd i hi))];refine f h' (λi hi=>hh i (hrd i hi)) _ ?_;simp only[hh id hi,e];exact⟨h3,h4,hk K' hk'⟩
   by_cases c1:off+len=c.length
   .rw[zB0 c1]at hK
    exact done _ (by simp) (λi hi=>by simp[hi]) hK λK' hk=>by rw[zB0 c1];exact hk
   .rw[zA8 c1]at hK
    by_cases c2:off+len+ys.length<=c.length
    .rw[zB0 c2]at hK
     exact done _ (by simp) (λi hi=>by simp[hi]) hK λK' hk=>by rw[zA8 c1,zB0 c2];exact hk
    .rw[zA8 c2]at hK
     exact done _ (by simp) (λi hi=>by simp[hi]) hK λK' hk=>by rw[zA8 c1,zA8 c2];exact hk
  .exact hK.elim
 .exact⟨_,hK.2,λh' hh K' hk=>⟨h1,h2,by rw[zA8 (nd h' hh)];exact f h' hh _ ⟨hK.1,hk⟩⟩⟩
 .rename_i id r len _
  split at hK
  .rename_i m cs rs e
   split at hK
   .rename_i c er
    refine⟨_,hK.2.2.2,λh' hh K' hk=>⟨h1,h2, ?_⟩⟩;rw[zA8 (nd h' λi hi=>hh i (zF1 _ hi))];refine f h' (λi hi=>hh i (zF1 _ hi)) _ ?_;simp only[hh id (zH1 ..),e,er];exact⟨hK.1,hK.2.1,hK.2.2.1,hk⟩
   .exact hK.elim
  .exact hK.elim
 .exact hK.elim
theorem NJ:cU (λ_ K=>Jp b x y λv=>K ⟨v,[],[]⟩) h:=by
 intro K hK;unfold Jp at hK;split at hK
 .exact⟨_,hK.2,λh' _ K' hk=>⟨hK.1,hk⟩⟩
 .exact hK.elim
theorem SK:cU (λ_ K=>v8 P t x λv=>K ⟨v,[],[]⟩) h:=by
 intro K hK;unfold v8 at hK;split at hK
 .exact⟨_,hK.2,λh' _ K' hk=>⟨hK.1,hk⟩⟩
 .exact⟨_,hK.2,λh' _ K' hk=>⟨hK.1,hk⟩⟩
 .exact⟨_,hK.2,λh' _ K' hk=>⟨hK.1,hk⟩⟩
 .exact⟨_,hK.2,λh' _ K' hk=>⟨hK.1,hk⟩⟩
 .exact⟨_,hK.2,λh' _ K' hk=>⟨hK.1,hk⟩⟩
 .exact hK.elim
theorem SL:cU (λ_ K=>OB P t x λv=>K ⟨v,[],[]⟩) h:=by
 intro K hK;unfold OB at hK;split at hK
 .exact⟨_,hK.2,λh' _ K' hk=>⟨hK.1,hk⟩⟩
 .exact hK.elim
theorem ot{h h':Nat->Blk}{outs:List (Option (List PV))}:∀{ms:List (Option (Nat×Option Nat))} {j:Nat},(∀i∈db ms,h' i=h i)->fo h' outs j ms=fo h outs j ms
 |[],_,_=>rfl
 |none::ms,j,hh=>by simp only[fo];exact ot (by rwa [mC]at hh)
 |some (i,q)::ms,j,hh=>by
  rw[kg]at hh;simp only[fo];rw[hh i (by simp),ot λj hid=>hh j (by simp[hid])]
theorem IL{sg:FuncId->List Bool}:cU (λh K=>Dr P sg h k f vs K) h:=by
 intro K hK;obtain⟨as,rd,ms,⟨h1,tk,outs,res,h2,t,ht,hK⟩,g⟩:=NH hK;refine⟨_,hK,λh' hh K' hk=>g h' hh _ ⟨h1,tk,outs,res,h2,t,λe1 e2 i hi=>by rw[hh i (zB3.2 (.inl hi))];exact ht e1 e2 i hi, ?_⟩⟩;rw[ot λi hid=>hh i (zB3.2 (.inl hid))];exact hk
theorem wm{h h':Nat->Blk}:∀{l:List Nat},(∀i∈l,h' i=h i)->mG h' l=mG h l
 |[],_=>rfl
 |id::l,hh=>by simp only[mG];rw[hh id (by simp),wm λi hi=>hh i (by simp[hi])]
theorem ES{i:Nat}(e:h' i=h i):∀{ws:List (Nat×Blk)},hwsH h' ws i=hwsH h ws i:=by
 intro ws
 induction ws generalizing h h' with
 |nil=>exact e
 |cons p ws ih=>
  obtain⟨j,b⟩:=p;simp only[hwsH];exact ih (h:=λk=>if k=j then b else h k) (h':=λk=>if k=j then b else h' k) (by show(if i=j then b else h' i)=(if i=j then b else h i);rw[e])
theorem IM{sg:FuncId->List Bool}:cU (λh K=>OD P sg h k f vs K) h:=by
 intro K hK;obtain⟨r,hr,g⟩:=IL (h:=hwsH h (mG h (nT (sg (f+8589934592)) vs))) _ hK;refine⟨_,hr,λh' hh K' hk=> ?_⟩;have e1:mG h' (nT (sg (f+8589934592)) vs)=mG h (nT (sg (f+8589934592)) vs):=wm λi hi=>hh i (zB3.2 (.inl hi));show Dr P sg (hwsH h' (mG h' (nT (sg (f+8589934592)) vs))) k f vs _;rw[e1];exact g _ (λi hi=>ES (hh i (zB3.2 (.inr hi)))) _ hk
theorem NM:cU (λh K=>oC P h f vs K) h:=by
 intro K hK;simp only[oC]at hK;split at hK
 .rename_i id off len
  split at hK
  .rename_i m c e
   obtain⟨h1,g,h2,l,h3,h4⟩:=hK;refine⟨_,h4,λh' hh K' hk=> ?_⟩;have e':h' id=.live m c:=by rw[hh id (by simp)];exact e
   simp only[oC,e'];exact⟨h1,g,h2,l,h3,hk⟩
  .exact hK.elim
 .rename_i id len g
  split at hK
  .rename_i m cs rs e
   obtain⟨L,h1,h2,h3,h4,h5,h6,srt,h7,h8⟩:=hK;refine⟨_,h8,λh' hh K' hk=> ?_⟩;have e':h' id=.deep m cs rs:=by rw[hh id (by simp)];exact e
   simp only[oC,e'];exact⟨L,h1,h2,h3,h4,h5,h6,srt,h7,hk⟩
  .exact hK.elim
 .exact hK.elim
theorem CQ{sg:FuncId->List Bool}:cU (λh K=>qk P sg h k f vs K) h:=by
 by_cases e:(sg (f+12884901888)).isEmpty=true
 .simp only[qk,e,zH3];exact IM
 .simp only[qk,e];exact NM
theorem yu:cU (λh K=>li P t h x K) h:=by
 intro K hK;simp only[li]at hK;split at hK
 .rename_i id off len
  split at hK
  .rename_i n z m c e1 e
   refine⟨_,hK.2.2,λh' hh K' hk=> ?_⟩;have e':h' id=.live m c:=by rw[hh id (by simp)];exact e
   simp only[li,e1,e'];exact⟨hK.1,hK.2.1,hk⟩
  .rename_i n z m cs rs e1 e
   refine⟨_,hK.2.2,λh' hh K' hk=> ?_⟩;have e':h' id=.deep m cs rs:=by rw[hh id (by simp)];exact e
   simp only[li,e1,e'];exact⟨hK.1,hK.2.1,hk⟩
  .exact hK.elim
 .exact hK.elim
theorem EY{m k:AV}{c:Bool}:cU (λh K=>pk P t h m k c K) h:=by
 intro K hK;unfold pk at hK;split at hK
 .rename_i e1 e2
  split at hK
  .rename_i e3
   exact⟨_,hK.2.2.2.2,λh' hh K' hk=>by
    unfold pk;simp only[e1,e2,hh _ (zB7.2 rfl),e3];exact⟨hK.1,hK.2.1,hK.2.2.1,hK.2.2.2.1,hk⟩⟩
  .exact hK.elim
 .exact hK.elim
theorem wn{m k:AV}:cU (λh K=>mO P t h m k v K) h:=by
 intro K hK;unfold mO at hK;split at hK
 .rename_i e1 e2
  split at hK
  .rename_i e3
   obtain⟨h1,h2,h3,h4,hK⟩:=hK;obtain⟨x,ws,rd,⟨h5,hK⟩,f⟩:=As hK;exact⟨_,hK,λh' hh K' hk=>by
    unfold mO;simp only[e1,e2,hh _ (zH1 ..),e3];exact⟨h1,h2,h3,h4,f h' (λi hi=>hh i (zF1 _ hi)) _ ⟨h5,hk⟩⟩⟩
  .exact hK.elim
 .exact hK.elim
theorem Rc{sg:FuncId->List Bool}{ρ:Operand->AV}{op:Op}:cU (λh K=>lH P sg ρ h k op K) h:=by
 intro K hK;unfold lH at hK;split at hK
 .obtain⟨r,hr,f⟩:=nh (h:=h) K hK;exact⟨r,hr,f⟩
 .obtain⟨r,hr,f⟩:=nh (h:=h) K hK;exact⟨r,hr,f⟩
 .obtain⟨r,hr,f⟩:=NG (h:=h) K hK;exact⟨r,hr,f⟩
 .obtain⟨r,hr,f⟩:=SN (h:=h) K hK;exact⟨r,hr,f⟩
 .obtain⟨r,hr,f⟩:=YE (h:=h) K hK;exact⟨r,hr,f⟩
 .obtain⟨r,hr,f⟩:=NN (h:=h) K hK;exact⟨r,hr,f⟩
 .obtain⟨r,hr,f⟩:=NK (h:=h) K hK;exact⟨r,hr,f⟩
 .obtain⟨r,hr,f⟩:=wr (h:=h) K hK;exact⟨r,hr,f⟩
 .obtain⟨r,hr,f⟩:=II (h:=h) K hK;exact⟨r,hr,f⟩
 .obtain⟨r,hr,f⟩:=xD (h:=h) K hK;exact⟨r,hr,f⟩
 .obtain⟨r,hr,f⟩:=IJ (h:=h) K hK;exact⟨r,hr,f⟩
 .obtain⟨r,hr,f⟩:=NL (h:=h) K hK;exact⟨r,hr,f⟩
 .obtain⟨r,hr,f⟩:=IH (h:=h) K hK;exact⟨r,hr,f⟩
 .obtain⟨r,hr,f⟩:=IP (h:=h) K hK;exact⟨r,hr,f⟩
 .obtain⟨r,hr,f⟩:=SM (h:=h) K hK;exact⟨r,hr,f⟩
 .obtain⟨r,hr,f⟩:=IN (h:=h) K hK;exact⟨r,hr,f⟩
 .obtain⟨r,hr,f⟩:=IK (h:=h) K hK;exact⟨r,hr,f⟩
 .obtain⟨r,hr,f⟩:=xE (h:=h) K hK;exact⟨r,hr,f⟩
 .split at hK
  .rename_i e
   obtain⟨y,hK,g⟩:=He hK;obtain⟨r,hr,f⟩:=nh (h:=h) K hK;exact⟨r,hr,λh' hh K' hk=>by simp only[lH,e];exact g _ (f h' hh K' hk)⟩
  .exact hK.elim
 .split at hK
  .rename_i e;exact⟨_,hK,λh' _ K' hk=>by simp only[lH,e];exact hk⟩
  .rename_i e;exact⟨_,hK,λh' _ K' hk=>by simp only[lH,e];exact hk⟩
  .rename_i e;exact⟨_,hK,λh' _ K' hk=>by simp only[lH,e];exact hk⟩
  .rename_i e;exact⟨_,hK,λh' _ K' hk=>by simp only[lH,e];exact hk⟩
  .exact hK.elim
 .obtain⟨h1,hK⟩:=hK
  split at hK
  .rename_i e;exact⟨_,hK,λh' _ K' hk=>⟨h1,by simp only[e];exact hk⟩⟩
  .exact hK.elim
 .obtain⟨r,hr,f⟩:=EY (h:=h) K hK;exact⟨r,hr,f⟩
 .obtain⟨r,hr,f⟩:=wn (h:=h) K hK;exact⟨r,hr,f⟩
 .obtain⟨r,hr,f⟩:=wn (h:=h) K hK;exact⟨r,hr,f⟩
 .exact⟨_,hK,λh' _ K' hk=>hk⟩
 .obtain⟨r,hr,f⟩:=SK (h:=h) K hK;exact⟨r,hr,f⟩
 .obtain⟨r,hr,f⟩:=EZ (h:=h) K hK;exact⟨r,hr,f⟩
 .obtain⟨r,hr,f⟩:=NJ (h:=h) K hK;exact⟨r,hr,f⟩
 .obtain⟨r,hr,f⟩:=NJ (h:=h) K hK;exact⟨r,hr,f⟩
 .obtain⟨r,hr,f⟩:=SL (h:=h) K hK;exact⟨r,hr,f⟩
 .obtain⟨r,hr,f⟩:=yu (h:=h) K hK;exact⟨r,hr,f⟩
 .split at hK
  .rename_i e
   obtain⟨r,hr,f⟩:=CQ (h:=h) K hK;exact⟨r,hr,λh' hh K' hk=>by simp only[lH,e];exact f h' hh K' hk⟩
  .rename_i e
   obtain⟨r,hr,f⟩:=CQ (h:=h) K hK;exact⟨r,hr,λh' hh K' hk=>by simp only[lH,e];exact f h' hh K' hk⟩
  .exact hK.elim
 .exact hK.elim
theorem NO{op:BinOp}:cU (λ_ K=>xI op x y λv=>K ⟨.p v,[],[]⟩) h:=by
 intro K hK;unfold xI at hK;split at hK
 .split at hK
  .exact⟨_,hK.2,λh' _ K' hk=>by unfold xI;exact⟨hK.1,hk⟩⟩
  .exact⟨_,hK.2,λh' _ K' hk=>by unfold xI;exact⟨hK.1,hk⟩⟩
  .exact⟨_,hK.2,λh' _ K' hk=>by unfold xI;exact⟨hK.1,hk⟩⟩
  .exact⟨_,hK.2,λh' _ K' hk=>by unfold xI;exact⟨hK.1,hk⟩⟩
  .exact⟨_,hK.2,λh' _ K' hk=>by unfold xI;exact⟨hK.1,hk⟩⟩
  .exact hK.elim
 .exact hK.elim
theorem EX{lo hi mx:Option Operand}{ρ:Operand->AV}:cU (λh K=>kJ P t x lo hi mx h ρ K) h:=by
 intro K hK;simp only[kJ]at hK;split at hK
 .rename_i id off len
  split at hK
  .rename_i m c e
   obtain⟨h1,h2,hK⟩:=hK;split at hK
   .obtain⟨i,hK,f1⟩:=cB hK
    obtain⟨j,hK,f2⟩:=cB hK;refine⟨_,hK.2.2.2,λh' hh K' hk=> ?_⟩;have e':h' id=.live m c:=by rw[hh id (by simp)];exact e
    simp only[kJ,e'];exact⟨h1,h2,f1 _ (f2 _ ⟨hK.1,hK.2.1,hK.2.2.1,hk⟩)⟩
   .obtain⟨h3,hK⟩:=hK
    obtain⟨i,hK,f1⟩:=cB hK;obtain⟨j,hK,f2⟩:=cB hK;obtain⟨l,hK,f3⟩:=cB hK;refine⟨_,hK.2.2.2.2,λh' hh K' hk=> ?_⟩;have e':h' id=.live m c:=by rw[hh id (by simp)];exact e
    simp only[kJ,e'];exact⟨h1,h2,h3,f1 _ (f2 _ (f3 _ ⟨hK.1,hK.2.1,hK.2.2.1,hK.2.2.2.1,hk⟩))⟩
  .exact hK.elim
 .exact hK.elim
theorem Ra{ρ:Operand->AV}{op:Op}:cU (λh K=>BJ P ρ h k op K) h:=by
 intro K hK;unfold BJ at hK;split at hK
 .obtain⟨h1,h2,h3,hK⟩:=hK
  obtain⟨xs,rs,ws,rd,⟨h4,hK⟩,_,_,_,f⟩:=ng hK;exact⟨_,hK,λh' hh K' hk=>⟨h1,h2,h3,f h' hh _ ⟨h4,hk⟩⟩⟩
 .unfold Ce at hK
  split at hK
  .rename_i e1 e2
   exact⟨_,hK.2.2.2.2,λh' _ K' hk=>by unfold BJ Ce;simp only[e1,e2];exact⟨hK.1,hK.2.1,hK.2.2.1,hK.2.2.2.1,hk⟩⟩
  .exact hK.elim
 .unfold ri at hK
  split at hK
  .rename_i e1
   exact⟨_,hK.2.2.2,λh' _ K' hk=>by unfold BJ ri;simp only[e1];exact⟨hK.1,hK.2.1,hK.2.2.1,hk⟩⟩
  .exact hK.elim
 .obtain⟨xs,rs,ws,rd,⟨h1,h2,h3,hK⟩,_,_,_,f⟩:=ng hK
  exact⟨_,hK,λh' hh K' hk=>f h' hh _ ⟨h1,h2,h3,hk⟩⟩
 .unfold rg at hK
  split at hK
  .rename_i e1
   obtain⟨cs,hk,f⟩:=wq hK.2;exact⟨_,hk,λh' _ K' hk=>by unfold BJ rg;simp only[e1];exact⟨hK.1,f _ hk⟩⟩
  .exact hK.elim
 .unfold wV at hK
  split at hK
  .rename_i e1
   exact⟨_,hK.2,λh' _ K' hk=>by unfold BJ wV;simp only[e1];exact⟨hK.1,hk⟩⟩
  .exact hK.elim
 .unfold wV at hK
  split at hK
  .rename_i e1
   exact⟨_,hK.2,λh' _ K' hk=>by unfold BJ wV;simp only[e1];exact⟨hK.1,hk⟩⟩
  .exact hK.elim
 .exact hK.elim
theorem Hf:cU (λ_ K=>Ur x K) h:=by
 intro K hK;unfold Ur at hK;split at hK
 .exact⟨_,hK,λh' _ K' hk=>hk⟩
 .exact hK.elim
theorem zU{sg:FuncId->List Bool}{ρ:Operand->AV}{op:Op}:cU (λh K=>pg P sg ρ h k op K) h:=by
 intro K hK;unfold pg at hK;split at hK
 .rename_i hx
  have back:∀h' K',Rb P ρ h' op K'->pg P sg ρ h' k op K':=λh' K' hk=>by unfold pg;rw[zB0 hx];exact hk
  unfold Rb at hK;split at hK
  .obtain⟨r,hr,f⟩:=NO (h:=h) K hK;exact⟨r,hr,λh' hh K' hk=>back h' K' (f h' hh K' hk)⟩
  .obtain⟨r,hr,f⟩:=EX (h:=h) K hK;exact⟨r,hr,λh' hh K' hk=>back h' K' (f h' hh K' hk)⟩
  .obtain⟨r,hr,f⟩:=yu (h:=h) K hK;exact⟨r,hr,λh' hh K' hk=>back h' K' (f h' hh K' hk)⟩
  .obtain⟨r,hr,f⟩:=Hf (h:=h) K hK;exact⟨r,hr,λh' hh K' hk=>back h' K' (f h' hh K' hk)⟩
  .obtain⟨r,hr,f⟩:=Hf (h:=h) K hK;exact⟨r,hr,λh' hh K' hk=>back h' K' (f h' hh K' hk)⟩
  .exact hK.elim
 .rename_i hx
  split at hK
  .rename_i hn
   have back:∀h' K',BJ P ρ h' k op K'->pg P sg ρ h' k op K':=λh' K' hk=>by unfold pg;rw[zA8 hx,zB0 hn];exact hk
   obtain⟨r,hr,f⟩:=Ra (h:=h) K hK;exact⟨r,hr,λh' hh K' hk=>back h' K' (f h' hh K' hk)⟩
  .rename_i hn
   obtain⟨r,hr,f⟩:=Rc (h:=h) K hK;exact⟨r,hr,λh' hh K' hk=>by show pg P sg ρ h' k op K';unfold pg;rw[zA8 hx,zA8 hn];exact f h' hh K' hk⟩
theorem vQ{sg:FuncId->List Bool}{ρ:Operand->AV}{op:Op}{K':R->Prop}(hK:pg P sg ρ h k op K)(hh:∀r,K r->K' r):pg P sg ρ h k op K':=by
 obtain⟨r,hr,f⟩:=zU K hK;exact f h (λ_ _=>rfl) K' (hh r hr)
theorem kq{ρ ρ':Operand->AV}{x:Option Operand}{d:Nat}(h:∀y,x=some y->ρ y=ρ' y):ll ρ x d=ll ρ' x d:=by
 funext K;cases x with
 |none=>rfl
 |some y=>simp only[ll,h y rfl]
theorem HZ{sg:FuncId->List Bool}{ρ ρ':Operand->AV}{op:Op}(hρ:∀x∈op.operands,ρ x=ρ' x)(hK:lH P sg ρ h k op K):lH P sg ρ' h k op K:=by
 unfold lH at hK |-
 split at hK<;>simp only[Op.operands]at hρ
 case h_8 t n parts=>
  have e:(parts.toList.map λp=>ρ p.2)=parts.toList.map λp=>ρ' p.2:=zH4 λp hp=>hρ p.2 (by simp;exact⟨p.1,by simpa using hp⟩);unfold bP at hK |-
  rw[<-e];exact hK
 case h_9 t x lo hi mx=>
  have ex:ρ x=ρ' x:=hρ x (by simp);have elo:∀d,ll ρ lo d=ll ρ' lo d:=λd=>kq λy hy=>hρ y (by subst hy;simp);have ehi:∀d,ll ρ hi d=ll ρ' hi d:=λd=>kq λy hy=>hρ y (by subst hy;simp);have emx:∀d,ll ρ mx d=ll ρ' mx d:=λd=>kq λy hy=>hρ y (by subst hy;simp);rw[<-ex];unfold eC at hK |-
  simp only[<-elo,<-ehi,<-emx];exact hK
 case h_16 t parts=>
  have e:(parts.toList.map λp=>(p.1,ρ p.2))=parts.toList.map λp=>(p.1,ρ' p.2):=zH4 λp hp=>by rw[hρ p.2 (by simp;exact⟨p.1,by simpa using hp⟩)]
  rw[<-e];exact hK
 case h_25 f first caps=>
  have e1:first.toList.map ρ=first.toList.map ρ':=zH4 λx hx=>hρ x (by simp at hx |-;exact .inl hx)
  have e2:caps.toList.map ρ=caps.toList.map ρ':=zH4 λx hx=>hρ x (by simp at hx |-;exact .inr hx);rw[<-e1,<-e2];exact hK
 case h_32 f args ts=>
  have ef:ρ f=ρ' f:=hρ f (by simp[Call.operands]);have ea:args.map ρ=args.map ρ':=zH4 λx hx=>hρ x (by simp[Call.operands,hx]);rw[<-ef,<-ea];exact hK
 all_goals first
  |exact hK
  |exact hK.elim
  |(simp[Call.operands]at hρ;simp only[<-hρ];exact hK)
  |(simp[Call.operands]at hρ;obtain⟨e1,e2⟩:=hρ;simp only[<-e1,<-e2];exact hK)
  |(simp at hρ;obtain⟨e1,e2,e3⟩:=hρ;simp only[<-e1,<-e2,<-e3];exact hK)
theorem HY{sg:FuncId->List Bool}{ρ ρ':Operand->AV}{op:Op}(hρ:∀x∈op.operands,ρ x=ρ' x)(hK:pg P sg ρ h k op K):pg P sg ρ' h k op K:=by
 unfold pg at hK |-
 split at hK
 .rename_i hx
  rw[zB0 hx];unfold Rb at hK |-
  split at hK<;>simp only[Op.operands]at hρ
  .simp at hρ;obtain⟨e1,e2⟩:=hρ;simp only[<-e1,<-e2];exact hK
  .rename_i t x lo hi mx
   have ex:ρ x=ρ' x:=hρ x (by simp);have elo:∀d,ll ρ lo d=ll ρ' lo d:=λd=>kq λy hy=>hρ y (by subst hy;simp);have ehi:∀d,ll ρ hi d=ll ρ' hi d:=λd=>kq λy hy=>hρ y (by subst hy;simp);have emx:∀d,ll ρ mx d=ll ρ' mx d:=λd=>kq λy hy=>hρ y (by subst hy;simp);rw[<-ex];unfold kJ at hK |-
   simp only[<-elo,<-ehi,<-emx];exact hK
  .simp[Call.operands]at hρ;simp only[<-hρ];exact hK
  .simp at hρ;simp only[<-hρ];exact hK
  .simp at hρ;simp only[<-hρ];exact hK
  .exact hK.elim
 .rename_i hx
  rw[zA8 hx];split at hK
  .rename_i hn
   rw[zB0 hn];unfold BJ at hK |-
   split at hK<;>simp only[Op.operands]at hρ
   .rename_i t n parts
    have e:(parts.toList.map λp=>ρ p.2)=parts.toList.map λp=>ρ' p.2:=zH4 λp hp=>hρ p.2 (by simp;exact⟨p.1,by simpa using hp⟩);unfold oT at hK |-
    rw[<-e];exact hK
   .simp at hρ;obtain⟨e1,e2⟩:=hρ;simp only[<-e1,<-e2];exact hK
   .exact hK
   .simp at hρ;simp only[<-hρ];exact hK
   .rename_i t parts
    have e:(parts.toList.map λp=>(p.1,ρ p.2))=parts.toList.map λp=>(p.1,ρ' p.2):=zH4 λp hp=>by rw[hρ p.2 (by simp;exact⟨p.1,by simpa using hp⟩)]
    rw[<-e];exact hK
   .simp at hρ;simp only[<-hρ];exact hK
   .simp at hρ;simp only[<-hρ];exact hK
   .exact hK.elim
  .rename_i hn
   rw[zA8 hn];exact HZ hρ hK
section
variable {P:Program}{sg:FuncId->List Bool}{ops:Array Oper}{n0:Nat}
def OutOk(P:Program)(sg:FuncId->List Bool)(ops:Array Oper)(n0 i:Nat)(o:Oper)(S:St):Option R->Prop
 |some r=>fC ops S o True False/\∀K:R->Prop,K r->pg P sg (BH S) S.h (tc n0 i) o.op K
 |none=>fC ops S o False True
def CW(o:Oper):Option R->St->St
 |some r,S=>S.app o.dst r
 |none,S=>S.puto o.dst (.tup [])
def AT:Option R->List (Nat×Blk)×List Nat
 |some r=>(r.ws,r.rd)
 |none=>([],[])
def RunL(P:Program)(sg:FuncId->List Bool)(ops:Array Oper)(n0:Nat)(out:Nat->Option R):List Nat->St->St->Prop
 |[],S,S'=>S'=S
 |i::is,S,S'=>∃o,ops[i]? =some o/\OutOk P sg ops n0 i o S (out i)/\RunL P sg ops n0 out is (CW o (out i) S) S'
theorem IE{o:Oper}(h:fC ops S o yes no):(fC ops S o True False/\yes)\/(fC ops S o False True/\no):=by
 unfold fC at h |-
 cases hg:o.guard with
 |none=>simp only[hg]at h;exact .inl ⟨trivial,h⟩
 |some p=>
  obtain⟨j,want⟩:=p;simp only[hg]at h |-
  cases hd:(ops[j]?).bind (·.dst)with
  |none=>simp only[hd]at h
  |some d=>
   simp only[hd]at h |-
   unfold Js at h |-
   split at h
   .rename_i b e
    by_cases hb:b=want
    .exact .inl ⟨⟨λ_=>trivial,λhn=>hn hb⟩,h.1 hb⟩
    .exact .inr ⟨⟨λhn=>hb hn,λ_=>trivial⟩,h.2 hb⟩
   .exact .inr ⟨trivial,h⟩
   .exact h.elim
theorem oJ{o:Oper}{yes' no':Prop}(hy:yes->yes')(hn:no->no')(h:fC ops S o yes no):fC ops S o yes' no':=by
 unfold fC at h |-
 split
 .rename_i e;simp only[e]at h;exact hy h
 .rename_i j want e
  simp only[e]at h;split
  .rename_i d hd
   simp only[hd]at h;unfold Js at h |-
   split at h
   .exact⟨λe=>hy (h.1 e),λe=>hn (h.2 e)⟩
   .exact hn h
   .exact h
  .rename_i hd;simp only[hd]at h
theorem sn{o:Oper}(he:∀t∈o.looksAt ops,S'.e t=S.e t)(h:fC ops S o yes no):fC ops S' o yes no:=by
 unfold fC at h |-
 cases hg:o.guard with
 |none=>simp only[hg]at h;exact h
 |some p=>
  obtain⟨j,want⟩:=p;simp only[hg]at h |-
  cases hd:(ops[j]?).bind (·.dst)with
  |none=>simp only[hd]at h
  |some d=>
   simp only[hd]at h |-
   rw[he d (by simp[Oper.looksAt,hg,hd])];exact h
theorem OutOk.congr{i:Nat}{o:Oper}{x:Option R}(he:∀t∈o.looksAt ops,S'.e t=S.e t)(hh:∀id∈(AT x).2,S'.h id=S.h id)(h:OutOk P sg ops n0 i o S x):OutOk P sg ops n0 i o S' x:=by
 cases x with
 |none=>exact sn he h
 |some r=>
  refine⟨sn he h.1,λK hK=> ?_⟩;obtain⟨r',hr',hf⟩:=zU (λx=>x=r) (h.2 (λx=>x=r) rfl);subst hr';refine HY (λx hx=> ?_) (hf S'.h hh K hK);cases x with
  |tmp t=>
   simp only[BH];exact(he t (List.mem_append_left _ (List.mem_filterMap.2 ⟨.tmp t,by simpa using hx,rfl⟩))).symm
  |_=>rfl
theorem Vc{o:Oper}{x:Option R}{t:Nat}(h:∀d,o.dst=some d->t≠d):(CW o x S).e t=S.e t:=by
 cases x<;>simp only[CW,St.app,St.hws,St.puto]<;>cases hd:o.dst<;>simp only[St.put]
 .simp[h _ hd]
 .simp[h _ hd]
theorem ag9{o:Oper}{x:Option R}:(CW o x S).h=hwsH S.h (AT x).1:=by
 cases x<;>simp only[CW,AT,St.app,St.hws,St.puto,hwsH]<;>cases o.dst<;>rfl
theorem ade{o:Oper}{x:Option R}:(CW o x S).n=S.n:=by
 cases x<;>simp only[CW,St.app,St.hws,St.puto]<;>cases o.dst<;>rfl
def ael:Option R->AV
 |some r=>r.v
 |none=>.tup []
theorem Ze{o:Oper}{x:Option R}:CW o x S=⟨(S.puto o.dst (ael x)).e,hwsH S.h (AT x).1,S.n⟩:=by
 cases x<;>simp only[CW,AT,St.app,St.hws,St.puto,hwsH,ael]<;>cases o.dst<;>rfl
theorem jH{h:Nat->Blk}:∀{ws:List (Nat×Blk)} {i:Nat},(∀p∈ws,p.1≠i)->hwsH h ws i=h i
 |[],_,_=>rfl
 |(k,b)::l,i,hn=>by
  simp only[hwsH];rw[jH (ws:=l) λp hp=>hn p (by simp[hp])];have:i≠k:=λe=>hn (k,b) (by simp) e.symm;simp[this]
theorem An{h h':Nat->Blk}:∀{ws:List (Nat×Blk)} {i:Nat},(∃p∈ws,p.1=i)->hwsH h ws i=hwsH h' ws i
 |[],_,hp=>by obtain⟨p,hp,_⟩:=hp;cases hp
 |(k,b)::l,i,hp=>by
  simp only[hwsH];by_cases hl:∃p∈l,p.1=i
  .exact An hl
  .have hn:∀p∈l,p.1≠i:=λp hp e=>hl ⟨p,hp,e⟩
   rw[jH hn,jH hn];obtain⟨p,hp,e⟩:=hp;rcases zD7.1 hp with rfl|hp
   .simp[<-e]
   .exact absurd e (hn p hp)
theorem IB{l m:List (Nat×Blk)}(hd:∀p∈l,∀q∈m,p.1≠q.1):hwsH (hwsH h l) m=hwsH (hwsH h m) l:=by
 funext i;by_cases hl:∃p∈l,p.1=i
 .obtain⟨p,hp,e⟩:=hl
  rw[jH (ws:=m) λq hq e'=>hd p hp q hq (e.trans e'.symm)];exact An ⟨p,hp,e⟩
 .have hn:∀p∈l,p.1≠i:=λp hp e=>hl ⟨p,hp,e⟩
  rw[jH (ws:=l) hn];by_cases hm:∃p∈m,p.1=i
  .exact An hm
  .have hn':∀p∈m,p.1≠i:=λp hp e=>hm ⟨p,hp,e⟩
   rw[jH hn',jH hn',jH hn]
def TV(ops:Array Oper)(out:Nat->Option R)(i j:Nat):Prop:=
 (∀x y,ops[i]? =some x->ops[j]? =some y->x.apart ops y=true)/\clear (AT (out i)) (AT (out j))/\clear (AT (out j)) (AT (out i))
theorem ae2{out:Nat->Option R}{i:Nat}{x y:Oper}(hx:ops[i]? =some x)(hy:ops[j]? =some y)(hf:TV ops out i j)
  (h1:OutOk P sg ops n0 i x S (out i)) (h2:OutOk P sg ops n0 j y (CW x (out i) S) (out j)):
  OutOk P sg ops n0 j y S (out j)/\OutOk P sg ops n0 i x (CW y (out j) S) (out i)/\CW y (out j) (CW x (out i) S)=CW x (out i) (CW y (out j) S):=by
 obtain⟨hap,c1,c2⟩:=hf;obtain⟨a1,a2,a3⟩:=Oper.apart_spec (hap x y hx hy);refine⟨h2.congr (λt ht=> ?_) λid hid=> ?_,h1.congr (λt ht=> ?_) λid hid=> ?_, ?_⟩
 .grind [Vc]
 .rw[ag9,jH λp hp e=>(c1 p hp).1 (e▸hid)]
 .grind [Vc]
 .rw[ag9,jH λp hp e=>(c2 p hp).1 (e▸hid)]
 .have ehh:hwsH (hwsH S.h (AT (out i)).1) (AT (out j)).1=hwsH (hwsH S.h (AT (out j)).1) (AT (out i)).1:=IB λp hp q hq=>(c1 p hp).2 q hq
  simp only[Ze,ehh];congr 1;funext t;cases hxd:x.dst with
  |none=>simp only[St.puto];cases y.dst<;>rfl
  |some d=>
   cases hyd:y.dst with
   |none=>rfl
   |some d'=>
    grind [St.puto,St.put]
theorem RunL.front{out:Nat->Option R}{i:Nat}:∀(pre:List Nat) (S S':St),(∀j∈pre,TV ops out j i)->RunL P sg ops n0 out (pre++i::post) S S'->RunL P sg ops n0 out (i::(pre++post)) S S':=by
 intro pre
 induction pre with
 |nil=>intro S S' _ h;exact h
 |cons j pre ih=>
  intro S S' hf h;obtain⟨x,hx,ox,h⟩:=h;obtain⟨y,hy,oy,h⟩:=ih _ _ (λk hk=>hf k (by simp[hk])) h;obtain⟨s1,s2,e⟩:=ae2 hx hy (hf j (by simp)) ox oy;exact⟨y,hy,s1,x,hx,s2,by rw[<-e];exact h⟩
theorem RunL.n{out:Nat->Option R}:∀(is:List Nat) (S S':St),RunL P sg ops n0 out is S S'->S'.n=S.n
 |[],_,_,h=>by rw[h]
 |_::is,_,_,⟨_,_,_,h⟩=>(RunL.n is _ _ h).trans ade
theorem RunL.congr{out out':Nat->Option R}:∀(is:List Nat) (S S':St),(∀i∈is,out' i=out i)->RunL P sg ops n0 out is S S'->RunL P sg ops n0 out' is S S'
 |[],_,_,_,h=>h
 |i::is,S,S',he,⟨o,ho,h1,h2⟩=>⟨o,ho,by grind,by rw[he i (by simp)];exact RunL.congr is _ _ (λj hj=>he j (by simp[hj])) h2⟩
theorem LZ{K:St->List (List (Nat×Blk)×List Nat)->Prop}:∀(os:List Oper) (i:Nat) (S:St) (L:List (List (Nat×Blk)×List Nat)),ops.toList.drop i=os->qF P sg ops n0 os i S L K->
  ∃(outs:List (Option R)) (S':St),outs.length=os.length/\RunL P sg ops n0 (λj=>outs.getD (j-i) none) (List.range' i os.length) S S'/\K S' (L++outs.map AT):=by
 intro os
 induction os with
 |nil=>intro i S L _ h;exact⟨[],S,rfl,rfl,by simpa[qF]using h⟩
 |cons o os ih=>
  intro i S L hd h;have ho:ops[i]? =some o:=by
   grind [zF3]
  have hd':ops.toList.drop (i+1)=os:=by
   have:=zB5 (List.drop 1) hd;grind [zI4]
  simp only[qF]at h;have fin:∀x:Option R,OutOk P sg ops n0 i o S x->qF P sg ops n0 os (i+1) (CW o x S) (L++[AT x]) K->
    ∃(outs:List (Option R)) (S':St),outs.length=(o::os).length/\RunL P sg ops n0 (λj=>outs.getD (j-i) none) (List.range' i (o::os).length) S S'/\K S' (L++outs.map AT):=by
   intro x hx hrest;obtain⟨outs,S',hl,hrun,hK⟩:=ih (i+1) _ _ hd' hrest;refine⟨x::outs,S',by simp[hl],⟨o,ho,by simpa using hx, ?_⟩,by simpa using hK⟩;grind [RunL.congr]
  rcases IE h with⟨hg,h⟩|⟨hg,h⟩
  .obtain⟨r,hr,hf⟩:=zU _ h
   exact fin (some r) ⟨hg,λK' hK'=>hf S.h (λ_ _=>rfl) K' hK'⟩ hr
  .exact fin none hg h
def aek(ops:Array Oper)(listed:Array Bool):Prop:=
 ∀k,listed.getD k false=true->∀o,ops[k]? =some o->∀e∈o.after,Region.binds .any e=true->listed.getD e.on false=true
theorem xJ{listed:Array Bool}(hc:aek ops listed){i:Nat}:∀(n j:Nat),mc ops n i j=true->(∀o,ops[j]? =some o->∀e∈o.after,Region.binds .any e=true->listed.getD e.on false=true)->listed.getD i false=true:=by
 intro n
 induction n with
 |zero=>grind [mc]
 |succ n ih=>
  intro j h hj;simp only[mc]at h;cases ho:ops[j]? with
  |none=>simp[ho]at h
  |some o=>
   simp only[ho]at h;obtain⟨e,he,hb⟩:=Array.any_eq_true'.1 h;simp only[zB9,zI8,beq_iff_eq,zC2]at hb;obtain⟨⟨hb,_⟩,hb2⟩:=hb;have hl:=hj o ho e he hb;rcases hb2 with rfl|hb2
   .exact hl
   .exact ih e.on hb2 λo' ho'=>hc e.on hl o' ho'
end
section
variable {P:Program}{sg:FuncId->List Bool}{w0:World}{nA nt:Nat}{M G:Nat->Prop}{ι0:Nat->Loc}{w:World}{S:St}{ι:Nat->Loc}{a:Act}
variable [AmbOk w0 M]
def ET(n0:Nat)(listed:Array Bool):Nat->Prop:=λid=>id<n0\/∃i,listed.getD i false=true/\tc n0 i<=id/\id<tc n0 i+256
theorem Sy{listed:Array Bool}{i:Nat}(h:listed.getD i false=true):i<listed.size:=by
 grind
theorem Jl(hreg:rI nt ops=true){Q:Exit->Act->World->Prop}{out:Nat->Option R}
  (hfree:∀j i,j<i->i<ops.size->mc ops ops.size j i=true\/TV ops out j i) {Sf:St}
  (hQ:∀a' w' ι',Rel w0 nA nt M G ι0 (jW n0 ops.size) w' Sf ι' a'->Q .normal a' w'):
  ∀(is:List Nat) (listed:Array Bool) (S:St) (a:Act) (w:World) (ι:Nat->Loc),listed.size=ops.size->is.Pairwise (·<·)->(∀j,j<ops.size->(listed.getD j true=false↔j∈is))->(∀j∈is,j<ops.size)->
   aek ops listed->RunL P sg ops n0 out is S Sf->Rel w0 nA nt M G ι0 (ET n0 listed) w S ι a->wpAny P .any ops Q is.length listed a w:=by
 intro is
 induction hn:is.length generalizing is with
 |zero=>
  intro listed S a w ι hsz hs hun hin hc hrun h;obtain rfl:=zA4 hn;refine⟨?_, ?_⟩
  .rw[List.eq_nil_iff_forall_not_mem]
   grind [mem_ready]
  .have e:Sf=S:=hrun
   subst e;refine hQ a w ι (h.mono λid hid=> ?_);simp only[jW,tc];rcases hid with h1|⟨i,hi,h1,h2⟩
   .omega
   grind [tc]
 |succ n ih=>
  intro listed S a w ι hsz hs hun hin hc hrun h;have lf:∀j,j<ops.size->(listed.getD j false=true↔j∉is):=λj hj=>by
   grind
  refine⟨λh0=> ?_,λi hi=> ?_⟩
  .exfalso
   cases is with
   |nil=>cases hn
   |cons j is=>
    have hj:=hin j (by simp);have:j∈Region.ready .any ops listed:=by
     refine mem_ready.2 ⟨(hun j hj).2 (by simp),ops[j],Array.getElem?_eq_getElem hj,λe he hb=> ?_⟩;have hlt:=(qz hreg (Array.getElem?_eq_getElem hj)).2 e he hb;grind [zF6]
    grind
  .obtain⟨h0,o,ho,hall⟩:=mem_ready.1 hi
   have hilt:i<ops.size:=(zC7.1 ho).1;have him:i∈is:=(hun i hilt).1 h0;obtain⟨pre,post,rfl⟩:=List.append_of_mem him;have hpw:=List.pairwise_append.1 hs;have hfr:∀j∈pre,TV ops out j i:=λj hj=>by
    grind [xJ]
   obtain⟨o',ho',hok,hrun'⟩:=RunL.front pre S Sf hfr hrun;obtain rfl:o'=o:=by grind
   have hi':i<listed.size:=by omega
   have hA:∀x,x<256->¬ET n0 listed (tc n0 i+x):=by
    rintro x hx (h1|⟨j,hj,h1,h2⟩)
    .grind [tc]
    grind [tc]
   have hset:∀j,(listed.setIfInBounds i true).getD j false=true↔j=i\/listed.getD j false=true:=λj=>by
    by_cases e:i=j
    .subst e;simp[hi']
    .rw[getD_set_ne false e];simp[Ne.symm e]
   have hnext:∀(S1:St) a1 w1 ι1,S1=CW o' (out i) S->Rel w0 nA nt M G ι0 (gh (ET n0 listed) (tc n0 i)) w1 S1 ι1 a1->wpAny P .any ops Q n (listed.setIfInBounds i true) a1 w1:=by
    intro S1 a1 w1 ι1 e1 h1;subst e1;refine ih (pre++post) (by simp at hn |-;omega) (listed.setIfInBounds i true) _ a1 w1 ι1 (by simp[hsz]) ?_ ?_ (λj hj=>hin j (by grind)) ?_ hrun' (h1.mono λid hid=> ?_)
    .grind
    .grind [zF6]
    .intro k hk o1 ho1 e he hb
     rw[hset]at hk |-
     right;rcases hk with rfl|hk
     .grind
     .exact hc k hk o1 ho1 e he hb
    .rcases hid with hid|hid
     .rcases hid with h2|⟨j,hj,h2⟩
      .exact .inl h2
      .exact .inr ⟨j,(hset j).2 (.inr hj),h2⟩
     .exact .inr ⟨i,(hset i).2 (.inl rfl),hid⟩
   obtain⟨hdst,_⟩:=qz hreg ho;unfold wpOp;simp only[ho];cases hout:out i with
   |some r=>
    rw[hout]at hok hnext;rcases qV h hok.1 with⟨hw,_⟩|⟨_,hf⟩
    .rw[zB0 hw]
     refine .inl (BI h hdst hA (hok.2 (λx=>x=r) rfl) _ _ λr' val w' ι' hk hrel=> ?_);subst hk;exact hnext _ _ _ ι' rfl hrel
    .exact hf.elim
   |none=>
    rw[hout]at hok hnext;rcases qV h hok with⟨_,hf⟩|⟨hw,_⟩
    .exact hf.elim
    .rw[zA8 (by rw[hw];simp)]
     exact hnext _ _ _ ι rfl ((h.skip o'.dst hdst).mono λ_ hid=>.inl hid)
theorem zH(hm:P.follows .mixedOrders=true)(hreg:rI nt ops=true)(hap:wZ ops=true){Q:Exit->Act->World->Prop}{K:St->Prop}
  (h:Rel w0 nA nt M G ι0 (λid=>id<S.n) w S ι a) (hK:qF P sg ops S.n ops.toList 0 S [] λS' L=>lj ops L/\K S')
  (hQ:∀S' a' w' ι',K S'->S'.n=S.n->Rel w0 nA nt M G ι0 (jW S.n ops.size) w' S' ι' a'->Q .normal a' w'):(Code.region id ops true).wp P Q a w:=by
 obtain⟨outs,S',hl,hrun,hcl,hKS⟩:=LZ ops.toList 0 S [] (by simp) hK;refine wp_region_any hm ?_;simp only[Array.length_toList,zE1]at hl hrun hcl;have e:(List.range ops.size).length=ops.size:=by simp
 have:=Jl (P:=P) (sg:=sg) (w0:=w0) (nA:=nA) (M:=M) (G:=G) (ι0:=ι0) (Q:=Q) hreg (n0:=S.n) (out:=λj=>outs.getD j none) (Sf:=S') ?_ (λa' w' ι' hr=>hQ S' a' w' ι' hKS (RunL.n _ _ _ hrun) hr)
  (List.range ops.size) (Array.replicate ops.size false) S a {w with drawn:=w.drawn+1} ι (by simp) List.pairwise_lt_range ?_ (λj hj=>zD5.1 hj) ?_ ?_ ((h.drawn _ (Nat.le_succ _)).mono λid hid=>.inl hid)
 .grind
 .intro j i hji hi
  rcases hcl i hi j hji with hb|⟨c1,c2⟩
  .exact .inl hb
  .cases hb:mc ops ops.size j i with
   |true=>exact .inl rfl
   |false=>
    right;have hL:∀x,x<ops.size->(outs.map AT).getD x ([],[])=AT (outs.getD x none):=λx hx=>by
     grind
    rw[hL j (by omega),hL i hi]at c1;rw[hL j (by omega),hL i hi]at c2;refine⟨λx y hx hy=> ?_,c1,c2⟩;have h1:=zC8.1 hap i (zD5.2 hi);grind
 .simp_all
 .intro k hk
  have:=Sy hk;simp_all
 grind [List.range_eq_range']
end
section
variable {P:Program}{sg:FuncId->List Bool}{w0:World}{nA nt:Nat}{M G:Nat->Prop}{ι0:Nat->Loc}{w:World}{S:St}{ι:Nat->Loc}{a:Act}
variable [AmbOk w0 M]
theorem WD{d:Option Nat}:(S.puto d v).n=S.n:=by cases d<;>rfl
theorem WZ{K:St->Prop}:∀(os:List Oper) (i:Nat) (S:St),rR P sg ops n0 os i S K->rR P sg ops n0 os i S λS'=>K S'/\S'.n=S.n:=by
 intro os
 induction os with
 |nil=>intro i S h;exact⟨h,rfl⟩
 |cons o os ih=>
  grind [rR,oJ,vQ,St.app,St.hws,WD]
def IU:Ex->Exit
 | .normal=>.normal
 | .exit id=>.exit id
 | .ret=>.ret
theorem JA(hm:P.follows .mixedOrders=true):∀(c:Code) (Q:Ex->St->Prop) (S:St) (a:Act) (w:World) (ι:Nat->Loc),Gl.wp P sg nt c Q S->Rel w0 nA nt M G ι0 (λid=>id<S.n) w S ι a->
  c.wp P (λe a' w'=>∃ex S' ι',e=IU ex/\Q ex S'/\Rel w0 nA nt M G ι0 (λid=>id<S'.n) w' S' ι' a') a w:=by
 intro c
 induction c with
 |skip=>intro Q S a w ι hw h;exact wp_skip ⟨.normal,S,ι,rfl,hw,h⟩
 |exit id=>intro Q S a w ι hw h;exact wp_exit ⟨.exit id,S,ι,rfl,hw,h⟩
 |ret=>intro Q S a w ι hw h;exact wp_ret ⟨.ret,S,ι,rfl,hw,h⟩
 |seq x y ihx ihy=>
  intro Q S a w ι hw h;simp only[Gl.wp]at hw;refine wp_seq (wp_mono (ihx _ S a w ι hw h) ?_);rintro e a' w' ⟨ex,S',ι',rfl,hq,h'⟩;cases ex with
  |normal=>exact ihy Q S' a' w' ι' hq h'
  |exit id=>exact⟨_,S',ι',rfl,hq,h'⟩
  |ret=>exact⟨_,S',ι',rfl,hq,h'⟩
 |cond c x y ihx ihy=>
  intro Q S a w ι hw h;simp only[Gl.wp]at hw;split at hw
  .rename_i t e
   have hc:=h.opd c;rw[e]at hc;have hc:=mq hc;cases t
   .grind [wp_cond_false]
   grind [wp_cond_true]
  .exact hw.elim
 |block id c ih=>
  intro Q S a w ι hw h;simp only[Gl.wp]at hw;refine wp_block (wp_mono (ih _ S a w ι hw h) ?_);rintro e a' w' ⟨ex,S',ι',rfl,hq,h'⟩;cases ex with
  |normal=>exact⟨.normal,S',ι',rfl,hq,h'⟩
  |exit j=>
   grind [IU,Exit.inBlock]
  |ret=>exact⟨.ret,S',ι',rfl,hq,h'⟩
 |loop c ih=>
  intro Q S a w ι hw h;simp only[Gl.wp]at hw;obtain⟨I,⟨n,hn⟩,hstep⟩:=hw;have key:∀n,∀S a w ι,I n S->Rel w0 nA nt M G ι0 (λid=>id<S.n) w S ι a->∀(b:Frame) (k:List Item) (cs:List Frame),
    ∃e a' w',(∃ex S' ι',e=IU ex/\Q ex S'/\Rel w0 nA nt M G ι0 (λid=>id<S'.n) w' S' ι' a')/\Arrives P (lone (b.at a (.code c::.inLoop c::k)) cs w) b k cs e a' w':=by
   intro n
   induction n using Nat.strongRecOn with
   |_ n ihn=>
    intro S a w ι hI h b k cs;obtain⟨e,a₁,w₁,⟨ex,S1,ι1,rfl,hq,h1⟩,harr⟩:=ih _ S a w ι (hstep n S hI) h b (.inLoop c::k) cs;cases ex with
    |normal=>
     obtain⟨m,hmn,hI'⟩:=hq;obtain⟨e₂,a₂,w₂,hq₂,harr₂⟩:=ihn m hmn S1 a₁ w₁ ι1 hI' h1 b k cs;exact⟨e₂,a₂,w₂,hq₂,.of_steps (Steps.trans harr (.one step_inLoop)) harr₂⟩
    |exit id=>exact⟨_,a₁,w₁,⟨.exit id,S1,ι1,rfl,hq,h1⟩,.pass (x:=.inLoop c) rfl (λ_ _=>.inl (by simp[IU])) harr⟩
    |ret=>exact⟨_,a₁,w₁,⟨.ret,S1,ι1,rfl,hq,h1⟩,.pass (x:=.inLoop c) rfl (λ_ _=>.inl (by simp[IU])) harr⟩
  intro b k cs;obtain⟨e,a',w',hq,harr⟩:=key n S a w ι hn h b k cs;exact⟨e,a',w',hq,.of_steps (.one step_loop) harr⟩
 |region id ops d=>
  intro Q S a w ι hw h;cases d with
  |false=>
   simp only[Gl.wp]at hw;obtain⟨hreg,hw⟩:=hw;have hw2:=WZ ops.toList 0 S hw;refine wp_region ?_;have hs:=Et (P:=P) (sg:=sg) (w0:=w0) (nA:=nA) (M:=M) (G:=G) (ι0:=ι0) hreg S.n ops.toList 0 S a w ι rfl (Nat.zero_le _) (h.mono λi hi=>by grind [jW,tc]) hw2
    (Q:=λe a' w'=>∃ex S' ι',e=IU ex/\Q ex S'/\Rel w0 nA nt M G ι0 (λid=>id<S'.n) w' S' ι' a') (λS' a' w' ι' hk h'=>by
     obtain⟨hk1,hk2⟩:=hk;refine⟨.normal,_,ι',rfl,hk1, ?_⟩;have h2:=h'.nx (256*ops.size);refine h2.mono λi hi=> ?_;grind [jW,tc,St.nx])
   grind [List.range_eq_range']
  |true=>
   simp only[Gl.wp]at hw;obtain⟨hreg,hap,hw⟩:=hw;refine zH hm hreg hap h hw λS' a' w' ι' hk hn h'=>⟨.normal,_,ι',rfl,hk, ?_⟩;refine(h'.nx (256*ops.size)).mono λi hi=> ?_;grind [jW,tc,St.nx]
 |rangeFunc=>grind [Gl.wp]
 |scope=>grind [Gl.wp]
 |label=>grind [Gl.wp]
 |goto=>grind [Gl.wp]
 |refuse=>grind [Gl.wp]
end
def iw(as:List Arg):St:={e:=λt=>(bA 0 as).getD t (.p .any),h:=bH as,n:=as.length}
inductive Pl where
 |o (off:Nat)
 |i (r off:Nat)
 |d (off:Nat) (sel:List (Option Nat))
 |n (r:Option Nat)
def Pl.row:Pl->Option Nat
 | .i r _=>some r
 | .n r=>r
 |_=>none
def Pl.loc(l:Loc):Pl->Loc
 | .o off=>⟨l.B,l.off+off,l.cap-off,0,bC⟩
 | .i r off=>⟨(l.sub r).B,(l.sub r).off+off,(l.sub r).cap-off,0,bC⟩
 | .d off sel=>⟨l.B,l.off+off,l.cap-off,sel.length,λi=>match sel[i]? with|some (some r)=>l.inn r|_=>(0,0,0)⟩
 | .n _=>⟨0,0,0,0,bC⟩
def Dj(p q:Nat×Nat×Pl):Prop:=p.2.1≠q.2.1\/(p.2.2.row≠none/\q.2.2.row≠none/\p.2.2.row≠q.2.2.row)
def rH(rs:List (Option (List PV))):List DC->Option (List (Option Nat)×List (List PV))
 |[]=>some ([],[])
 | .row r::xs=>match rs[r]?,rH rs xs with
  |some (some c),some (s,l)=>some (some r::s,c::l)
  |_,_=>none
 | .v (.sl .own [])::xs=>match rH rs xs with
  |some (s,l)=>some (none::s,[]::l)
  |_=>none
 |_::_=>none
def DC.fz(rs:List (Option (List PV))):DC->PV
 | .v x=>x.cell
 | .row r=>match rs[r]? with
  |some (some c)=>.sl .fr c
  |_=>.any
 | .self _=>.any
def mJ(tk:Bool)(h:Nat->Blk)(k:Nat)(v:AV)(x:PV)(K:List (Nat×Nat×Pl)->Prop):Prop:=
 match x with
 | .sl .own xs=>match v with
  | .ref id off len=>match h id with
   | .live m c=>off+len<=c.length/\(m=true->tk=true)/\(c.drop off).take len=xs/\K [(k,id,.o off)]
   |_=>False
  | .inn id r off len=>match h id with
   | .deep m _ rs=>(match rs[r]? with
    |some (some c)=>off+len<=c.length/\(m=true->tk=true)/\(c.drop off).take len=xs/\K [(k,id,.i r off)]
    |_=>False)
   |_=>False
  | .p (.sl .own _)=>xs=[]/\K []
  |_=>False
 | .dl rows=>match v with
  | .ref id off len=>match h id with
   | .deep m cs rs=>off+len<=cs.length/\(m=true->tk=true)/\∃sel,rH rs ((cs.drop off).take len)=some (sel,rows)/\(sel.filterMap _root_.id).Nodup/\K [(k,id,.d off sel)]
   |_=>False
  | .p (.sl .own _)=>rows=[]/\K []
  |_=>False
 | .bx xs=>match v with
  | .ptr id 0=>match h id with
   | .live m c=>(m=true->tk=true)/\c=xs/\K [(k,id,.o 0)]
   |_=>False
  |_=>False
 | .sl .fr xs=>match v with
  | .p (.sl .fr ys)=>ys=xs/\K []
  | .p (.sl .own _)=>xs=[]/\K []
  | .ref id off len=>match h id with
   | .froz false c=>off+len<=c.length/\(c.drop off).take len=xs/\K []
   | .live false c=>off+len<=c.length/\(c.drop off).take len=xs/\K [(k,id,.n none)]
   | .deep false cs rs=>off+len<=cs.length/\((cs.drop off).take len).map (DC.fz rs)=xs/\K [(k,id,.n none)]
   |_=>False
  | .inn id r off len=>match h id with
   | .deep false _ rs=>(match rs[r]? with
    |some (some c)=>off+len<=c.length/\(c.drop off).take len=xs/\K [(k,id,.n (some r))]
    |_=>False)
   |_=>False
  |_=>False
 | .agg _=>False
 |x=>v=.p x/\K []
def sr(tk:Bool)(h:Nat->Blk):Nat->List AV->List PV->(List (Nat×Nat×Pl)->Prop)->Prop
 |_,[],[],K=>K []
 |k,v::vs,x::xs,K=>mJ tk h k v x λL=>sr tk h (k+1) vs xs λL'=>K (L++L')
 |_,_,_,_=>False
def fin(tk:Bool)(h:Nat->Blk)(k:Nat)(v:AV)(x:PV)(K:List (Nat×Nat×Pl)->Prop):Prop:=
 match x with
 | .agg xs=>match v with
  | .agg vs=>sr tk h (k+1) vs xs K
  | .p (.agg ys)=>sr tk h (k+1) (ys.map .p) xs K
  |_=>False
 |x=>mJ tk h k v x K
def fu(tk:Bool)(h:Nat->Blk):Nat->List AV->List PV->(List (Nat×Nat×Pl)->Prop)->Prop
 |_,[],[],K=>K []
 |k,v::vs,x::xs,K=>fin tk h k v x λL=>fu tk h (k+16) vs xs λL'=>K (L++L')
 |_,_,_,_=>False
def yO(tk:Bool)(S:St)(as:List Arg)(outs:List (Option (List PV)))(vs:List AV)(res:List PV):Prop:=
 fu tk S.h as.length vs res λL=>L.Pairwise Dj/\∀j,j<as.length->match as[j]?,outs[j]? with
  |some (.mu _ _),some (some c)=>S.h j=xx true c/\j∉L.map λp=>p.2.1
  |_,_=>True
def kP(ι:Nat->Loc)(n:Nat)(L:List (Nat×Nat×Pl))(i:Nat):Loc:=
 if i<n then ι i else match L.find? (λp=>p.1==i)with
  |some (_,id,pl)=>pl.loc (ι id)
  |none=>⟨0,0,0,0,bC⟩
def From(tk:Bool)(h:Nat->Blk)(L:List (Nat×Nat×Pl))(p:Nat×Blk):Prop:=
 (∃id off len m c,(p.1,id,.o off)∈L/\h id=.live m c/\off+len<=c.length/\(m=true->tk=true)/\p.2=.live tk ((c.drop off).take len))\/
 (∃id r off len m cs rs c,(p.1,id,.i r off)∈L/\h id=.deep m cs rs/\rs[r]? =some (some c)/\off+len<=c.length/\(m=true->tk=true)/\p.2=.live tk ((c.drop off).take len))\/
 (∃id off len m cs rs sel rows,(p.1,id,.d off sel)∈L/\h id=.deep m cs rs/\off+len<=cs.length/\(m=true->tk=true)/\rH rs ((cs.drop off).take len)=some (sel,rows)/\(sel.filterMap _root_.id).Nodup/\p.2=.deep tk (canon rows.length) (rows.map some))\/
 ((p.2=.live tk []\/p.2=.deep tk [] [])/\∀q∈L,q.1≠p.1)
section
variable {P:Program}{sg:FuncId->List Bool}{w0:World}{nA nt:Nat}{M G:Nat->Prop}{ι0:Nat->Loc}{A:Nat->Prop}{w:World}{S:St}{ι:Nat->Loc}{a:Act}
variable [AmbOk w0 M]
def NotIn(h:Nat->Blk)(ι:Nat->Loc)(F':Nat->Prop)(L:List (Nat×Nat×Pl)):Prop:=
 ∀k id r,(k,id,.n r)∈L->∀B,F' B->match r with
  |none=>¬owns (h id) (ι id) B
  |some r=>∀m cs rs c,h id=.deep m cs rs->rs[r]? =some (some c)->((ι id).sub r).cap≠0->((ι id).sub r).B≠B
theorem fin1_sound{x:PV}{K:List (Nat×Nat×Pl)->Prop}(hK:mJ tk h k v x K):
  ∃L,K L/\(∀p∈L,p.1=k)/\L.length<=1/\(∀p∈impW1 tk k x,From tk h L p)/\
   ∀{w:World} {z:Nat} {M G F':Nat->Prop} {ι ι':Nat->Loc} {val:Value},HeapOk w z M G h ι->(∀B,F' B->Held h ι B)->(∀B,z<=B->G B)->NotIn h ι F' L->(∀p∈L,ι' p.1=p.2.2.loc (ι p.2.1))->(L=[]->(ι' k).cap=0)->RepA w (Held h ι) G ι v val->RepA w F' G ι' (imp1 k x) val:=by
 have down:∀{w:World} {z:Nat} {M G F':Nat->Prop} {ι:Nat->Loc} {y:PV} {val:Value},HeapOk w z M G h ι->(∀B,F' B->Held h ι B)->RepP w (Held h ι) G y val->RepP w F' G y val:=λ_ hF hy=>
  RepP.tr (λ_ _ _ hN hv=>⟨hv,λh'=>hN (hF _ h')⟩) (λ_ _ _ h=>h) _ _ hy
 have downC:∀{w:World} {z:Nat} {M G F':Nat->Prop} {ι:Nat->Loc} {B o:Nat} {ys:List PV},HeapOk w z M G h ι->(∀B,F' B->Held h ι B)->RepC w (Held h ι) G B o ys->RepC w F' G B o ys:=λ_ hF hy=>
  RepC.tr (λ_ _ _ hN hv=>⟨hv,λh'=>hN (hF _ h')⟩) (λ_ _ _ h=>h) _ _ _ (λ_ _ hv=>hv) hy
 have scalar:∀{y:PV},v=.p y->K []->(∀k,imp1 k y=.p y)->(∀m k,impW1 m k y=[])->∃L,K L/\(∀p∈L,p.1=k)/\L.length<=1/\(∀p∈impW1 tk k y,From tk h L p)/\
   ∀{w:World} {z:Nat} {M G F':Nat->Prop} {ι ι':Nat->Loc} {val:Value},HeapOk w z M G h ι->(∀B,F' B->Held h ι B)->(∀B,z<=B->G B)->NotIn h ι F' L->(∀p∈L,ι' p.1=p.2.2.loc (ι p.2.1))->(L=[]->(ι' k).cap=0)->RepA w (Held h ι) G ι v val->RepA w F' G ι' (imp1 k y) val:=by
  grind [RepA]
 cases x with
 |sl o xs=>
  cases o with
  |ro=>exact scalar hK.1 hK.2 (λ_=>rfl) λ_ _=>rfl
  |fr=>
   simp only[mJ]at hK;split at hK
   .rename_i ys
    obtain⟨rfl,hk⟩:=hK;exact scalar rfl hk (λ_=>rfl) λ_ _=>rfl
   .grind [impW1,imp1,RepA,RepP]
   .rename_i id off len
    split at hK
    .rename_i c hb
     obtain⟨hle,rfl,hk⟩:=hK;refine⟨[],hk,λp hp=>by simp at hp,by simp,λp hp=>by simp[impW1]at hp, ?_⟩;intro w z M G F' ι ι' val ok hF _ _ _ _ hr;simp only[imp1];have:=rK (h':=h) ok (Frz.refl h) hb hle hr;simp only[RepA];exact down ok hF this
    .rename_i c hb
     obtain⟨hle,rfl,hk⟩:=hK;refine⟨_,hk,λp hp=>by simp at hp;rw[hp],by simp,λp hp=>by simp[impW1]at hp, ?_⟩;intro w z M G F' ι ι' val ok hF hG hN _ _ hr;obtain⟨ad,cap,rfl,h1,h2,h3,h4⟩:=cS hr;have hlen:((c.drop off).take len).length=len:=by simp;omega
     simp only[imp1,RepA,RepP];refine⟨ad,cap,by rw[hlen],by omega,by omega,(by intro e;cases e), ?_⟩;by_cases h0:len=0
     .grind
     .right
      rcases h4 with h4|rfl
      .omega
      .obtain⟨g1,_,g3⟩:=ok.live id false c hb
       have hcap:(ι id).cap≠0:=by omega
       rcases g3 with g3|⟨_,_,g⟩
       .exact absurd g3 hcap
       .refine⟨_,_,rfl,λhB=>hN k id none (by simp) _ hB (kf hb hcap),λ_=> ?_,downC ok hF (co (bQ (ok.cells (.inl ⟨false,hb⟩) (by grind)) off) len)⟩
        grind
    .rename_i cs rs hb
     obtain⟨hle,rfl,hk⟩:=hK;refine⟨_,hk,λp hp=>by simp at hp;rw[hp],by simp,λp hp=>by simp[impW1]at hp, ?_⟩;intro w z M G F' ι ι' val ok hF hG hN _ _ hr;obtain⟨ad,cap,rfl,h1,h2,h3,h4⟩:=cS hr;have hlen:(((cs.drop off).take len).map (DC.fz rs)).length=len:=by simp;omega
     simp only[imp1,RepA,RepP];refine⟨ad,cap,by rw[hlen],by omega,by omega,(by intro e;cases e), ?_⟩;by_cases h0:len=0
     .grind
     .right
      rcases h4 with h4|rfl
      .omega
      .obtain⟨n1,⟨l1,l2,l3⟩,r1,_⟩:=ok.deep hb
       have hcap:(ι id).cap≠0:=by omega
       have org:∀{B},Org z M G false B->G B:=λ{B} g=>by
        rcases g with⟨_,g⟩|⟨g,_⟩
        .exact g
        .cases g
       rcases l3 with l3|⟨_,q2,q3⟩
       .exact absurd l3 hcap
       .refine⟨_,_,rfl,λhB=>hN k id none (by simp) _ hB (by rw[hb];exact .inl ⟨hcap,rfl⟩),λ_=>org q2, ?_⟩
        rw[aY];intro j y hj;rw[zA5,zG2]at hj;obtain⟨x,hx,rfl⟩:=hj;have hx':cs[off+j]? =some x:=by
         grind
        obtain⟨u,u1,u2,u3⟩:=q3 _ x hx';refine⟨u,by grind,u2, ?_⟩;cases x with
        |v y=>exact down ok hF (go u3)
        |row r=>
         simp only[DC.fz];split
         .rename_i c hr2
          obtain⟨a,rfl,ha⟩:=u3.2 c hr2;have hrow:=r1 r c hr2;simp only[RepP];refine⟨a,_,rfl,hrow.1,hrow.2.1,(by intro e;cases e), ?_⟩;by_cases hc:c=[]
          .exact .inl hc
          .obtain⟨hrc,hcap2⟩:=hrow.cells hc
           right;rcases ha with ha|ha
           .exact absurd ha hcap2
           .refine⟨_,_,ha,λhB=>hN k id none (by simp) _ hB (by rw[hb];exact .inr ⟨r,c,hr2,hcap2,rfl⟩),λ_=> ?_,downC ok hF hrc⟩
            rcases hrow.2.2 with q|⟨_,_,q⟩
            .exact absurd q hcap2
            .exact org q
         .simp only[RepP]
        |self o=>simp only[DC.fz,RepP]
    .exact hK.elim
   .rename_i id r off len
    split at hK
    .rename_i cs rs hb
     split at hK
     .rename_i c hr2
      obtain⟨hle,rfl,hk⟩:=hK;refine⟨_,hk,λp hp=>by simp at hp;rw[hp],by simp,λp hp=>by simp[impW1]at hp, ?_⟩;intro w z M G F' ι ι' val ok hF hG hN _ _ hr;obtain⟨_,ad,cap,rfl,h1,h2,h3,h4⟩:=iQ hr;have hlen:((c.drop off).take len).length=len:=by simp;omega
      simp only[imp1,RepA,RepP];refine⟨ad,cap,by rw[hlen],by omega,by omega,(by intro e;cases e), ?_⟩;by_cases h0:len=0
      .grind
      .right
       rcases h4 with h4|rfl
       .omega
       .have hrow:=(ok.deepRow hb hr2).2
        obtain⟨hrc,hcap⟩:=hrow.cells (by grind);refine⟨_,_,rfl,λhB=>hN k id (some r) (by simp) _ hB _ _ _ _ hb hr2 hcap rfl,λ_=> ?_,downC ok hF (co (bQ hrc off) len)⟩;rcases hrow.2.2 with q|⟨_,_,q⟩
        .exact absurd q hcap
        .rcases q with⟨_,q⟩|⟨q,_⟩
         .exact q
         .cases q
     .exact hK.elim
    .exact hK.elim
   .exact hK.elim
  |own=>
   simp only[mJ]at hK;split at hK
   .rename_i id off len
    split at hK
    .rename_i m c hb
     obtain⟨hle,htk,rfl,hk⟩:=hK;refine⟨[(k,id,.o off)],hk,λp hp=>by simp at hp;rw[hp],by simp,λp hp=> ?_, ?_⟩
     .simp[impW1]at hp
      subst hp;exact .inl ⟨id,off,len,m,c,by simp,hb,hle,htk,rfl⟩
     .intro w z M G F' ι ι' val ok hF _ _ hι _ hr
      obtain⟨ad,cap,rfl,h1,h2,h3,h4⟩:=cS hr;have e:=hι (k,id,.o off) (by simp);grind [imp1,RepA,Pl.loc]
    .exact hK.elim
   .rename_i id r off len
    split at hK
    .rename_i m cs rs hb
     split at hK
     .rename_i c hr2
      obtain⟨hle,htk,rfl,hk⟩:=hK;refine⟨[(k,id,.i r off)],hk,λp hp=>by simp at hp;rw[hp],by simp,λp hp=> ?_, ?_⟩
      .simp[impW1]at hp
       subst hp;exact .inr (.inl ⟨id,r,off,len,m,cs,rs,c,by simp,hb,hr2,hle,htk,rfl⟩)
      .intro w z M G F' ι ι' val ok hF _ _ hι _ hr
       obtain⟨_,ad,cap,rfl,h1,h2,h3,h4⟩:=iQ hr;have e:=hι (k,id,.i r off) (by simp);grind [imp1,RepA,Pl.loc]
     .exact hK.elim
    .exact hK.elim
   .rename_i ys
    obtain⟨rfl,hk⟩:=hK;refine⟨[],hk,λp hp=>by simp at hp,by simp,λp hp=> ?_, ?_⟩
    .simp[impW1]at hp
     subst hp;exact .inr (.inr (.inr ⟨.inl rfl,λq hq=>by simp at hq⟩))
    grind [jQ,imp1,RepA]
   .exact hK.elim
 |dl rows=>
  simp only[mJ]at hK;split at hK
  .rename_i id off len
   split at hK
   .rename_i m cs rs hb
    obtain⟨hle,htk,sel,hsel,hnd,hk⟩:=hK;have hlen:=selD_len hsel;refine⟨[(k,id,.d off sel)],hk,λp hp=>by simp at hp;rw[hp],by simp,λp hp=> ?_, ?_⟩
    .simp[impW1]at hp
     subst hp;exact .inr (.inr (.inl ⟨id,off,len,m,cs,rs,sel,rows,by simp,hb,hle,htk,hsel,hnd,rfl⟩))
    .intro w z M G F' ι ι' val ok hF _ _ hι _ hr
     obtain⟨ad,cap,rfl,h1,h2,h3,h4⟩:=cS hr;have e:=hι (k,id,.d off sel) (by simp);have hl:len=rows.length:=by rw[hlen.2];simp;omega
     simp only[imp1,RepA];simp only[Pl.loc]at e;rw[e];refine⟨ad,cap,by rw[hl],by omega,by simp;omega,by simp;omega, ?_⟩;rcases h4 with h4|h4
     .exact .inl h4
     .exact .inr (by simpa using h4)
   .exact hK.elim
  .rename_i ys
   obtain⟨rfl,hk⟩:=hK;refine⟨[],hk,λp hp=>by simp at hp,by simp,λp hp=> ?_, ?_⟩
   .simp[impW1,canon]at hp
    subst hp;exact .inr (.inr (.inr ⟨.inr rfl,λq hq=>by simp at hq⟩))
   .intro w z M G F' ι ι' val ok hF _ _ _ h0 hr
    obtain⟨ad,cap,rfl,_,_,ho,_⟩:=jQ hr;obtain⟨rfl,rfl,rfl⟩:=ho rfl;have:=h0 rfl;simp only[imp1,RepA];exact⟨none,0,rfl,by simp,by simp[this],by omega,.inl rfl⟩
  .exact hK.elim
 |bx xs=>
  simp only[mJ]at hK;split at hK
  .rename_i id
   split at hK
   .rename_i m c hb
    obtain⟨htk,rfl,hk⟩:=hK;refine⟨[(k,id,.o 0)],hk,λp hp=>by simp at hp;rw[hp],by simp,λp hp=> ?_, ?_⟩
    .simp[impW1]at hp
     subst hp;exact .inl ⟨id,0,c.length,m,c,by simp,hb,by omega,htk,by simp⟩
    .intro w z M G F' ι ι' val ok hF _ _ hι _ hr
     have e:=hι (k,id,.o 0) (by simp);simp only[imp1,RepA]at hr |-
     simp only[Pl.loc]at e;rw[e];simpa using hr
   .exact hK.elim
  .exact hK.elim
 |agg xs=>exact hK.elim
 |int _ _=>exact scalar hK.1 hK.2 (λ_=>rfl) λ_ _=>rfl
 |bool _=>exact scalar hK.1 hK.2 (λ_=>rfl) λ_ _=>rfl
 |str _=>exact scalar hK.1 hK.2 (λ_=>rfl) λ_ _=>rfl
 |nilf=>exact scalar hK.1 hK.2 (λ_=>rfl) λ_ _=>rfl
 |nl=>exact scalar hK.1 hK.2 (λ_=>rfl) λ_ _=>rfl
 |any=>exact scalar hK.1 hK.2 (λ_=>rfl) λ_ _=>rfl
 |pc _=>exact scalar hK.1 hK.2 (λ_=>rfl) λ_ _=>rfl
 |fn _ _ _=>exact scalar hK.1 hK.2 (λ_=>rfl) λ_ _=>rfl
 where
 selD_len {rs:List (Option (List PV))}:∀{xs:List DC} {sel:List (Option Nat)} {rows:List (List PV)},rH rs xs=some (sel,rows)->sel.length=xs.length/\rows.length=xs.length
  |[],_,_,h=>by grind [rH]
  |x::xs,sel,rows,h=>by
   unfold rH at h;split at h
   .rename_i heq;cases heq
   .rename_i r xs' heq
    cases heq
    split at h
    .rename_i c s l h1 h2
     cases h
     obtain⟨q1,q2⟩:=selD_len h2;grind
    .cases h
   .rename_i xs' heq
    cases heq
    split at h
    .rename_i s l h2
     cases h
     obtain⟨q1,q2⟩:=selD_len h2;grind
    .cases h
   .cases h
theorem From.left{L L':List (Nat×Nat×Pl)}{p:Nat×Blk}(f:From tk h L p)(hn:∀q∈L',q.1≠p.1):From tk h (L++L') p:=by
 rcases f with⟨id,off,len,m,c,h1,h2⟩|⟨id,r,off,len,m,cs,rs,c,h1,h2⟩|⟨id,off,len,m,cs,rs,sel,rows,h1,h2⟩|⟨h1,h2⟩
 .exact .inl ⟨id,off,len,m,c,zB3.2 (.inl h1),h2⟩
 .exact .inr (.inl ⟨id,r,off,len,m,cs,rs,c,zB3.2 (.inl h1),h2⟩)
 .exact .inr (.inr (.inl ⟨id,off,len,m,cs,rs,sel,rows,zB3.2 (.inl h1),h2⟩))
 .refine .inr (.inr (.inr ⟨h1,λq hq=> ?_⟩))
  rcases zB3.1 hq with hq|hq
  .exact h2 q hq
  .exact hn q hq
theorem From.right{L L':List (Nat×Nat×Pl)}{p:Nat×Blk}(f:From tk h L' p)(hn:∀q∈L,q.1≠p.1):From tk h (L++L') p:=by
 rcases f with⟨id,off,len,m,c,h1,h2⟩|⟨id,r,off,len,m,cs,rs,c,h1,h2⟩|⟨id,off,len,m,cs,rs,sel,rows,h1,h2⟩|⟨h1,h2⟩
 .exact .inl ⟨id,off,len,m,c,zB3.2 (.inr h1),h2⟩
 .exact .inr (.inl ⟨id,r,off,len,m,cs,rs,c,zB3.2 (.inr h1),h2⟩)
 .exact .inr (.inr (.inl ⟨id,off,len,m,cs,rs,sel,rows,zB3.2 (.inr h1),h2⟩))
 .refine .inr (.inr (.inr ⟨h1,λq hq=> ?_⟩))
  rcases zB3.1 hq with hq|hq
  .exact hn q hq
  .exact h2 q hq
theorem NotIn.left{ι:Nat->Loc}{L L':List (Nat×Nat×Pl)}(n:NotIn h ι F' (L++L')):NotIn h ι F' L:=λk id r hm=>n k id r (zB3.2 (.inl hm))
theorem NotIn.right{ι:Nat->Loc}{L L':List (Nat×Nat×Pl)}(n:NotIn h ι F' (L++L')):NotIn h ι F' L':=λk id r hm=>n k id r (zB3.2 (.inr hm))
theorem Np{x:PV}:∀p∈impW1 m k x,p.1=k:=by
 unfold impW1;split<;>simp
structure Placed(tk:Bool)(h:Nat->Blk)(k k':Nat)(ws:List (Nat×Blk))(L:List (Nat×Nat×Pl)):Prop where
 lo:∀p∈L,k<=p.1/\p.1<k'
 nums:(L.map (·.1)).Nodup
 wsl:∀p∈ws,k<=p.1/\p.1<k'
 src:∀p∈ws,From tk h L p
theorem Placed.append{k'':Nat}{L L':List (Nat×Nat×Pl)}(p:Placed tk h k k' ws L)(q:Placed tk h k' k'' ws' L')(h1:k<=k')(h2:k'<=k''):Placed tk h k k'' (ws++ws') (L++L'):=by
 refine⟨λx hx=> ?_, ?_,λx hx=> ?_,λx hx=> ?_⟩
 .rcases zB3.1 hx with hx|hx
  .have:=p.lo x hx;omega
  .have:=q.lo x hx;omega
 .rw[zE2,List.nodup_append]
  refine⟨p.nums,q.nums,λx hx y hy e=> ?_⟩;obtain⟨x',hx',rfl⟩:=zD0.1 hx;obtain⟨y',hy',rfl⟩:=zD0.1 hy;have:=p.lo x' hx';have:=q.lo y' hy';omega
 .rcases zB3.1 hx with hx|hx
  .have:=p.wsl x hx;omega
  .have:=q.wsl x hx;omega
 .rcases zB3.1 hx with hx|hx
  .exact(p.src x hx).left λy hy e=>by have:=q.lo y hy;have:=p.wsl x hx;omega
  .exact(q.src x hx).right λy hy e=>by have:=p.lo y hy;have:=q.wsl x hx;omega
theorem tV{x:PV}{L:List (Nat×Nat×Pl)}(h1:∀p∈L,p.1=k)(h2:L.length<=1)(h3:∀p∈impW1 tk k x,From tk h L p):Placed tk h k (k+1) (impW1 tk k x) L:=by
 refine⟨λp hp=>by have:=h1 p hp;omega, ?_,λp hp=>by have:=Np p hp;omega,h3⟩
 match L,h2 with
 |[],_=>simp
 |[p],_=>simp
def Fits(ι ι':Nat->Loc)(k k':Nat)(L:List (Nat×Nat×Pl)):Prop:=
 (∀p∈L,ι' p.1=p.2.2.loc (ι p.2.1))/\∀i,k<=i->i<k'->(∀p∈L,p.1≠i)->(ι' i).cap=0
theorem Fits.left{ι ι':Nat->Loc}{L L':List (Nat×Nat×Pl)}(h:Fits ι ι' k k' (L++L'))(hk:k1<=k')(hL:∀p∈L',k1<=p.1):Fits ι ι' k k1 L:=
 ⟨λp hp=>h.1 p (zB3.2 (.inl hp)),λi h1 h2 h3=>h.2 i h1 (by omega) λp hp=>by
  rcases zB3.1 hp with hp|hp
  .exact h3 p hp
  .have:=hL p hp;omega⟩
theorem Fits.right{ι ι':Nat->Loc}{L L':List (Nat×Nat×Pl)}(h:Fits ι ι' k k' (L++L'))(hk:k<=k1)(hL:∀p∈L,p.1<k1):Fits ι ι' k1 k' L':=
 ⟨λp hp=>h.1 p (zB3.2 (.inr hp)),λi h1 h2 h3=>h.2 i (by omega) h2 λp hp=>by
  rcases zB3.1 hp with hp|hp
  .have:=hL p hp;omega
  .exact h3 p hp⟩
theorem wu{tk:Bool}{h:Nat->Blk}:∀{xs:List PV} {vs:List AV} {k:Nat} {K:List (Nat×Nat×Pl)->Prop},sr tk h k vs xs K->
  ∃L,K L/\Placed tk h k (k+xs.length) (impWL tk k xs) L/\
   ∀{w:World} {z:Nat} {M G F':Nat->Prop} {ι ι':Nat->Loc} {vals:List Value},HeapOk w z M G h ι->(∀B,F' B->Held h ι B)->(∀B,z<=B->G B)->NotIn h ι F' L->Fits ι ι' k (k+xs.length) L->RepAL w (Held h ι) G ι vs vals->RepAL w F' G ι' (impL k xs) vals
 |[],[],k,K,hK=>⟨[],hK,⟨λp hp=>by simp at hp,by simp,λp hp=>by simp[impWL]at hp,λp hp=>by simp[impWL]at hp⟩,λ_ _ _ _ _ hr=>by simpa only[impL,RepAL]using hr⟩
 |x::xs,v::vs,k,K,hK=>by
  simp only[sr]at hK;obtain⟨L,hK,a1,a2,a3,a4⟩:=fin1_sound hK;obtain⟨L',hK,b1,b2⟩:=wu hK;have p1:=tV a1 a2 a3;refine⟨L++L',hK, ?_, ?_⟩
  .have:=p1.append b1 (by omega) (by omega)
   rw[show k+1+xs.length=k+(x::xs).length from by simp;omega]at this;exact this
  .intro w z M G F' ι ι' vals ok hF hG hN hf hr
   rw[show k+(x::xs).length=k+1+xs.length from by simp;omega]at hf;simp only[RepAL]at hr;obtain⟨u,us,rfl,h1,h2⟩:=hr;simp only[impL,RepAL];refine⟨u,us,rfl,a4 ok hF hG hN.left (λp hp=>hf.1 p (zB3.2 (.inl hp))) (λe=> ?_) h1,b2 ok hF hG hN.right (hf.right (by omega) λp hp=>by have:=a1 p hp;omega) h2⟩;refine hf.2 k (zB1 _) (by omega) λp hp=> ?_;rcases zB3.1 hp with hp|hp
   .rw[e]at hp;simp at hp
   .have:=b1.lo p hp;omega
 |[],_::_,_,_,hK=>by simp only[sr]at hK
 |_::_,[],_,_,hK=>by simp only[sr]at hK
theorem IR{x:PV}{K:List (Nat×Nat×Pl)->Prop}(hs:iO x=true)(hK:fin tk h k v x K):
  ∃L,K L/\Placed tk h k (k+16) (impW tk k x) L/\
   ∀{w:World} {z:Nat} {M G F':Nat->Prop} {ι ι':Nat->Loc} {val:Value},HeapOk w z M G h ι->(∀B,F' B->Held h ι B)->(∀B,z<=B->G B)->NotIn h ι F' L->Fits ι ι' k (k+16) L->RepA w (Held h ι) G ι v val->RepA w F' G ι' (imp k x) val:=by
 have wide:∀{k1 k2 k3:Nat} {ws L},Placed tk h k1 k2 ws L->k<=k1->k2<=k3->Placed tk h k k3 ws L:=λp h1 h2=>
  ⟨λq hq=>by have:=p.lo q hq;omega,p.nums,λq hq=>by have:=p.wsl q hq;omega,p.src⟩
 have one:mJ tk h k v x K->(∀k,imp k x=imp1 k x)->(∀m k,impW m k x=impW1 m k x)->∃L,K L/\Placed tk h k (k+16) (impW tk k x) L/\
   ∀{w:World} {z:Nat} {M G F':Nat->Prop} {ι ι':Nat->Loc} {val:Value},HeapOk w z M G h ι->(∀B,F' B->Held h ι B)->(∀B,z<=B->G B)->NotIn h ι F' L->Fits ι ι' k (k+16) L->RepA w (Held h ι) G ι v val->RepA w F' G ι' (imp k x) val:=by
  intro hK e1 e2;obtain⟨L,hk,a1,a2,a3,a4⟩:=fin1_sound hK;refine⟨L,hk,by rw[e2];exact wide (tV a1 a2 a3) (zB1 _) (by omega), ?_⟩;intro w z M G F' ι ι' val ok hF hG hN hf hr;rw[e1];refine a4 ok hF hG hN (λp hp=>hf.1 p hp) (λe=>hf.2 k (zB1 _) (by omega) λp hp=>by rw[e]at hp;simp at hp) hr
 cases x with
 |agg xs=>
  simp[iO]at hs;have lists:∀vs,sr tk h (k+1) vs xs K->∃L,K L/\Placed tk h k (k+16) (impW tk k (.agg xs)) L/\
    ∀{w:World} {z:Nat} {M G F':Nat->Prop} {ι ι':Nat->Loc} {vals:List Value},HeapOk w z M G h ι->(∀B,F' B->Held h ι B)->(∀B,z<=B->G B)->NotIn h ι F' L->Fits ι ι' k (k+16) L->RepAL w (Held h ι) G ι vs vals->RepA w F' G ι' (imp k (.agg xs)) (.agg ⟨vals⟩):=by
   intro vs hK;obtain⟨L,hk,a1,a2⟩:=wu hK;refine⟨L,hk,wide a1 (by omega) (by omega), ?_⟩;intro w z M G F' ι ι' vals ok hF hG hN hf hr;simp only[imp,RepA];refine⟨vals,rfl,a2 ok hF hG hN ⟨hf.1,λi h1 h2 h3=>hf.2 i (by omega) (by omega) h3⟩ hr⟩
  simp only[fin]at hK;split at hK
  .rename_i vs
   obtain⟨L,hk,a1,a2⟩:=lists vs hK;refine⟨L,hk,a1, ?_⟩;intro w z M G F' ι ι' val ok hF hG hN hf hr;simp only[RepA]at hr;obtain⟨cs,rfl,hl⟩:=hr;exact a2 ok hF hG hN hf hl
  .rename_i ys
   obtain⟨L,hk,a1,a2⟩:=lists _ hK;refine⟨L,hk,a1, ?_⟩;intro w z M G F' ι ι' val ok hF hG hN hf hr;simp only[RepA,RepP]at hr;obtain⟨cs,rfl,hl⟩:=hr;exact a2 ok hF hG hN hf (RepAL_p.2 hl)
  .exact hK.elim
 |_=>exact one (by simpa only[fin]using hK) (λ_=>rfl) λ_ _=>rfl
theorem wt{tk:Bool}{h:Nat->Blk}:∀{xs:List PV} {vs:List AV} {k:Nat} {K:List (Nat×Nat×Pl)->Prop},xs.all iO=true->fu tk h k vs xs K->
  ∃L,K L/\Placed tk h k (k+16*xs.length) (impWs tk k xs) L/\
   ∀{w:World} {z:Nat} {M G F':Nat->Prop} {ι ι':Nat->Loc} {vals:List Value},HeapOk w z M G h ι->(∀B,F' B->Held h ι B)->(∀B,z<=B->G B)->NotIn h ι F' L->Fits ι ι' k (k+16*xs.length) L->RepAL w (Held h ι) G ι vs vals->RepAL w F' G ι' (imps k xs) vals
 |[],[],k,K,_,hK=>⟨[],hK,⟨λp hp=>by simp at hp,by simp,λp hp=>by simp[impWs]at hp,λp hp=>by simp[impWs]at hp⟩,λ_ _ _ _ _ hr=>by simpa only[imps,RepAL]using hr⟩
 |x::xs,v::vs,k,K,hs,hK=>by
  simp only[zH7,zB9]at hs;simp only[fu]at hK;obtain⟨L,hK,a1,a2⟩:=IR hs.1 hK;obtain⟨L',hK,b1,b2⟩:=wt hs.2 hK;refine⟨L++L',hK, ?_, ?_⟩
  .have:=a1.append b1 (by omega) (by omega)
   rw[show k+16+16*xs.length=k+16*(x::xs).length from by simp;omega]at this;exact this
  .intro w z M G F' ι ι' vals ok hF hG hN hf hr
   rw[show k+16*(x::xs).length=k+16+16*xs.length from by simp;omega]at hf;simp only[RepAL]at hr;obtain⟨u,us,rfl,h1,h2⟩:=hr;simp only[imps,RepAL];exact⟨u,us,rfl,a2 ok hF hG hN.left (hf.left (by omega) λp hp=>(b1.lo p hp).1) h1,b2 ok hF hG hN.right (hf.right (by omega) λp hp=>(a1.lo p hp).2) h2⟩
 |[],_::_,_,_,_,hK=>by simp only[fu]at hK
 |_::_,[],_,_,_,hK=>by simp only[fu]at hK
end
section
variable {P:Program}{sg:FuncId->List Bool}{w0:World}{nA nt:Nat}{M G:Nat->Prop}{ι0:Nat->Loc}{A:Nat->Prop}{w:World}{S:St}{ι:Nat->Loc}{a:Act}
theorem MM(h:Rel w0 nA nt M G ι0 A w S ι a)(hx:RepA w (Held S.h ι) G ι x val)(hK:gq P t S.h x K):
  ∃y ad,val=.pointer (some ad)/\(∃rd,K ⟨y,[],rd⟩)/\∃lv,RepA w (Held S.h ι) G ι y lv/\(Instr.loadAt t val).run P w=.ok lv w:=by
 unfold gq at hK;split at hK
 .rename_i n ht
  obtain⟨_,hK⟩:=hK;split at hK
  .rename_i y ys
   simp only[RepA,RepP]at hx;obtain⟨B,off,hv,hF,hc⟩:=hx;simp only[RepC]at hc;obtain⟨⟨v,hcell,_,hy⟩,_⟩:=hc;exact⟨.p y,_,hv,⟨_,hK⟩,v,by simpa only[RepA]using hy,by rw[hv];exact cN ht hcell⟩
  .rename_i id off
   simp only[RepA]at hx;have key:∀c,((∃m,S.h id=.live m c)\/∃m,S.h id=.froz m c)->gt c off (λx=>K ⟨.p x,[],[id]⟩)->∃y ad,val=.pointer (some ad)/\(∃rd,K ⟨y,[],rd⟩)/\∃lv,RepA w (Held S.h ι) G ι y lv/\(Instr.loadAt t val).run P w=.ok lv w:=by
    intro c hb hg;obtain⟨_,y,hy,hlt,hk⟩:=j7 hg;simp only[zC9]at hy hlt;have hc:=h.heap.cells hb (by intro e;subst e;simp at hlt);rw[aY]at hc;obtain⟨v,hcell,_,hy'⟩:=hc off y hy;exact⟨.p y,_,hx,⟨_,hk⟩,v,by simpa only[RepA]using hy',by rw[hx];exact cN ht hcell⟩
   split at hK
   .rename_i m c hb;exact key c (.inl ⟨m,hb⟩) hK
   .rename_i m c hb;exact key c (.inr ⟨m,hb⟩) hK
   .rename_i m cs rs hb
    obtain⟨_,y,hy,hlt,hk⟩:=j7 hK;simp only[zC9]at hy;obtain⟨v,hcell,_,hr⟩:=h.heap.deepCell hb hy;exact⟨_,_,hx,⟨_,hk⟩,v,hr,by rw[hx];exact cN ht hcell⟩
   .exact hK.elim
  .rename_i id r off
   simp only[RepA]at hx;split at hK
   .rename_i m cs rs hb
    split at hK
    .rename_i c hr
     obtain⟨_,y,hy,hlt,hk⟩:=j7 hK;simp only[zC9]at hy hlt;obtain⟨hc,_⟩:=(h.heap.deepRow hb hr).2.cells (by intro e;subst e;simp at hlt);rw[aY]at hc;obtain⟨v,hcell,_,hy'⟩:=hc off y hy;exact⟨.p y,_,hx.2,⟨_,hk⟩,v,by simpa only[RepA]using hy',by rw[hx.2];exact cN ht hcell⟩
    .exact hK.elim
   .exact hK.elim
  .exact hK.elim
 .rename_i n ht
  split at hK
  .rename_i xs
   simp only[RepA,RepP]at hx;obtain⟨B,off,hv,hF,hc⟩:=hx;obtain⟨hle,hk⟩:=hK;obtain⟨cs,hl,hlen,hcells,_⟩:=iz (co hc n);exact⟨.p (.agg (xs.take n)),_,hv,⟨_,hk⟩,.agg ⟨cs⟩,by simp only[RepA,RepP];exact⟨cs,rfl,hl⟩,by rw[hv];exact eD ht (cs:=cs) (by rw[hlen];simp;omega) hcells⟩
  .rename_i id off
   simp only[RepA]at hx;have key:∀c,((∃m,S.h id=.live m c)\/∃m,S.h id=.froz m c)->off+n<=c.length->K ⟨.p (.agg ((c.drop off).take n)),[],[id]⟩->∃y ad,val=.pointer (some ad)/\(∃rd,K ⟨y,[],rd⟩)/\∃lv,RepA w (Held S.h ι) G ι y lv/\(Instr.loadAt t val).run P w=.ok lv w:=by
    intro c hb hle hk;have hcs:∃cs:List Value,RepL w (Held S.h ι) G ((c.drop off).take n) cs/\cs.length=((c.drop off).take n).length/\(∀(j:Nat) (v:Value),cs[j]? =some v->w.cell? ⟨(ι id).B,(ι id).off+off+j,none⟩=some v):=by
     by_cases hn:c=[]
     .subst hn
      refine⟨[],by simp[RepL],by simp,λj v hj=>by simp at hj⟩
     .have hc:=h.heap.cells hb hn
      obtain⟨cs,h1,h2,h3,_⟩:=iz (co (bQ hc off) n);exact⟨cs,h1,h2,h3⟩
    obtain⟨cs,hl,hlen,hcells⟩:=hcs;exact⟨.p (.agg ((c.drop off).take n)),_,hx,⟨_,hk⟩,.agg ⟨cs⟩,by simp only[RepA,RepP];exact⟨cs,rfl,hl⟩,by rw[hx];exact eD ht (cs:=cs) (by rw[hlen];simp;omega) hcells⟩
   split at hK
   .rename_i m c hb;exact key c (.inl ⟨m,hb⟩) hK.1 hK.2
   .rename_i m c hb;exact key c (.inr ⟨m,hb⟩) hK.1 hK.2
   .rename_i m cs rs hb
    obtain⟨vs,hvs,hlen,hcells⟩:=h.heap.deepCells hb off n hK.1;exact⟨_,_,hx,⟨_,hK.2⟩,.agg ⟨vs⟩,by simp only[RepA];exact⟨vs,rfl,hvs⟩,by rw[hx];exact eD ht (cs:=vs) hlen hcells⟩
   .exact hK.elim
  .exact hK.elim
 .exact hK.elim
def mX(P:Program)(S:St):List ResultVar->(List AV->Prop)->Prop
 |[],K=>K []
 | .tmp t::rs,K=>mX P S rs λvs=>K (S.e t::vs)
 | .cell t ty::rs,K=>gq P ty S.h (S.e t) λr=>mX P S rs λvs=>K (r.v::vs)
theorem resW_tmp:∀{ts:List Nat} {K:List AV->Prop},mX P S (ts.map .tmp) K=K (ts.map S.e)
 |[],_=>rfl
 |t::ts,K=>by simp only[zC3,mX];exact resW_tmp (ts:=ts)
def Eh(tmps:Array Value):ResultVar->Sem Value
 | .tmp t=>pure (tmps.getD t undef)
 | .cell a t=>do loadVar t (<-asAddr (tmps.getD a undef))
theorem qy(h:Rel w0 nA nt M G ι0 A w S ι a):∀(rs:List ResultVar) {K:List AV->Prop},mX P S rs K->
  ∃vs vals,K vs/\RepAL w (Held S.h ι) G ι vs vals/\(rs.mapM (Eh a.tmps)).run P w=.ok vals w
 |[],K,hK=>⟨[],[],hK,by simp only[RepAL],rfl⟩
 | .tmp t::rs,K,hK=>by
  obtain⟨vs,vals,hk,hr,hrun⟩:=qy h rs hK;refine⟨_,a.tmps.getD t undef::vals,hk, ?_, ?_⟩
  .simp only[RepAL];exact⟨_,_,rfl,h.slots t,hr⟩
  .simp only[List.mapM_cons,Eh,zD4,zI2,zD6,hrun]
 | .cell t ty::rs,K,hK=>by
  simp only[mX]at hK;obtain⟨y,ad,hv,⟨rd,hk⟩,lv,hlv,hl⟩:=MM h (h.slots t) hK;obtain⟨vs,vals,hk,hr,hrun⟩:=qy h rs hk;refine⟨_,lv::vals,hk, ?_, ?_⟩
  .simp only[RepAL];exact⟨_,_,rfl,hlv,hr⟩
  .have hl2:(loadVar ty ad).run P w=.ok lv w:=by
    rw[hv]at hl;simpa[Instr.loadAt,Instr.sureAddr]using hl
   simp only[List.mapM_cons,Eh,hv,asAddr,zD4,zI2,zD6,hl2,hrun]
end
theorem uE{rs:List (Option (List PV))}:∀{xs:List DC} {sel:List (Option Nat)} {rows:List (List PV)},rH rs xs=some (sel,rows)->∀(j:Nat) (x:DC),xs[j]? =some x->
  (∃r c,x=.row r/\sel[j]? =some (some r)/\rows[j]? =some c/\rs[r]? =some (some c))\/(x=.v (.sl .own [])/\sel[j]? =some none/\rows[j]? =some [])
 |[],_,_,_,j,x,hj=>by simp at hj
 |y::xs,sel,rows,h,j,x,hj=>by
  unfold rH at h;split at h
  .rename_i heq;cases heq
  .rename_i r xs' heq
   cases heq
   split at h
   .rename_i c s l h1 h2
    cases h
    cases j with
    |zero=>simp only[zF3,zF2]at hj;subst hj;exact .inl ⟨r,c,rfl,rfl,rfl,h1⟩
    |succ j=>simp only[zG5]at hj |-;exact uE h2 j x hj
   .cases h
  .rename_i xs' heq
   cases heq
   split at h
   .rename_i s l h2
    cases h
    cases j with
    |zero=>simp only[zF3,zF2]at hj;subst hj;exact .inr ⟨rfl,rfl,rfl⟩
    |succ j=>simp only[zG5]at hj |-;exact uE h2 j x hj
   .cases h
  .cases h
theorem OC{n:Nat}{x:DC}(h:(canon n)[j]? =some x):x=.row j/\j<n:=by
 have hlt:=(zB4.1 h).1;simp only[canon,zB2,List.length_range]at hlt;simp[canon,hlt]at h;exact⟨h.symm,hlt⟩
theorem Qx{sel:List (Option Nat)}(hn:(sel.filterMap _root_.id).Nodup){i:Nat}(hi:sel[i]? =some (some r))(hj:sel[j]? =some (some r)):i=j:=by
 induction sel generalizing i j with
 |nil=>simp at hi
 |cons m sel ih=>
  have hn2:(sel.filterMap _root_.id).Nodup:=by
   cases m with
   |none=>simpa using hn
   |some x=>simp only[List.filterMap_cons,id_eq,List.nodup_cons]at hn;exact hn.2
  have mem:∀{j:Nat},sel[j]? =some (some r)->r∈sel.filterMap _root_.id:=λhj=>List.mem_filterMap.2 ⟨_,zF9 hj,rfl⟩;cases i with
  |zero=>
   cases j with
   |zero=>rfl
   |succ j=>
    simp only[zF3,zF2]at hi;subst hi;simp only[List.filterMap_cons,id_eq,List.nodup_cons]at hn;exact absurd (mem (by simpa using hj)) hn.1
  |succ i=>
   cases j with
   |zero=>
    simp only[zF3,zF2]at hj;subst hj;simp only[List.filterMap_cons,id_eq,List.nodup_cons]at hn;exact absurd (mem (by simpa using hi)) hn.1
   |succ j=>exact zB5 Nat.succ (ih hn2 (by simpa using hi) (by simpa using hj))
def Wt:List Value->Value
 |[v]=>v
 |vs=>.tuple ⟨vs⟩
theorem Bt{fn:Func}{rs:List ResultVar}(hr:fn.results=⟨rs⟩)(hrun:(rs.mapM (Eh tmps)).run P w=.ok vals w):(results fn tmps).run P w=.ok (Wt vals) w:=by
 have key:∀f:ResultVar->Sem Value,(∀x,f x=Eh tmps x)->rs.mapM f=rs.mapM (Eh tmps):=λf hf=>by rw[show f=Eh tmps from funext hf]
 unfold results;rw[hr,Array.mapM_eq_mapM_toList];simp only;rw[key _ (λx=>by cases x<;>rfl)];simp only[zD4,Sem.run_map,hrun]
 match vals with
 |[]=>rfl
 |[v]=>rfl
 |v::v'::vs=>simp[Wt]
section
variable {P:Program}{sg:FuncId->List Bool}
theorem CallT.of_wp(hm:P.follows .mixedOrders=true){fn:Func}{code:Code}{rs:List ResultVar}
  (hf:P.funcs[f]? =some fn) (hb:fn.body=some code) (hname:(fn.name== "runtime.NumGoroutine")=false) (hres:fn.results=⟨rs⟩) (hargs:as.length<=fn.ntmps)
  (hnr:noRoL res=true) (hro:jA res=true) (houts:(outs.all λo=>o.all noRoL)=true)
  (hw:Gl.wp P sg fn.ntmps code (λex S=>(match ex with| .exit _=>False|_=>mX P S rs λvs=>yO tk S as outs vs res)) (iw as)):CallT P tk f as outs res:=by
 refine⟨⟨fn,hf,by rw[hb];rfl,hname⟩,hnr,hro,houts, ?_⟩;intro w G ι vs hamb hnew hok hvs;have hlen:=d4 hvs;rw[dr]at hlen;have hsize:(⟨vs⟩:Array Value).size=as.length:=hlen;refine calls_of_wp hf hb ?_;have rel0:Rel w as.length fn.ntmps (fQ as ι) G ι (λid=>id<(iw as).n) w (iw as) ι {tmps:=⟨vs⟩++Array.replicate (fn.ntmps-(⟨vs⟩:Array Value).size) undef,defers:=[]}:=by
  have dead:∀id,¬id<as.length->bH as id=.dead:=λid hid=>by
   unfold bH;rw[zG9 (by omega)]
  refine⟨Keep.refl w _,hok,λt=> ?_,λid hid=>dead id hid,λt i hi=> ?_,λ_ _=>LocEq.refl _,λj hj=>hj,hnew,by simp[hsize];omega,rfl⟩
  .by_cases ht:t<as.length
   .obtain⟨v,hv,hr⟩:=ks hvs t _ (zA1 (by rw[dr];exact ht))
    have e1:(iw as).e t=(bA 0 as)[t]'(by rw[dr];exact ht):=by
     simp[iw,zA0,zA1 (show t<(bA 0 as).length by rw[dr];exact ht)]
    have e2:((⟨vs⟩:Array Value)++Array.replicate (fn.ntmps-(⟨vs⟩:Array Value).size) undef).getD t undef=v:=by
     rw[Array.getD_eq_getD_getElem?,Array.getElem?_append_left (by rw[hsize];exact ht)];simp only[zH8,hv,zH5]
    rw[e1,e2];exact hr
   .have e1:(iw as).e t=.p .any:=by
     simp[iw,zA0,zG9 (show(bA 0 as).length<=t by rw[dr];omega)]
    rw[e1];simp only[RepA,RepP]
  .by_cases ht:t<as.length
   .have e1:(iw as).e t=((as[t]'ht).av t):=by
     have:=wW as 0 t;rw[zA1 ht,zE4,zI0]at this;simp[iw,zA0,this]
    rw[e1]at hi;show i<as.length;cases hq:as[t]'ht with
    |pv x=>rw[hq]at hi;simp[Arg.av,AV.has]at hi
    |mu p c=>rw[hq]at hi;cases p<;>(simp[Arg.av,AV.has]at hi;omega)
   .have e1:(iw as).e t=.p .any:=by
     simp[iw,zA0,zG9 (show(bA 0 as).length<=t by rw[dr];omega)]
    rw[e1]at hi;simp[AV.has]at hi
 refine wp_mono (JA hm code _ (iw as) _ w ι hw rel0) ?_;rintro e a' w' ⟨ex,S,ι1,rfl,hq,h1⟩;have main:(mX P S rs λvs=>yO tk S as outs vs res)->∃v ι',(results fn a'.tmps).run P w'=.ok v w'/\(∀j,j<as.length->LocEq (ι j) (ι' j))/\Keep w w' (fQ as ι)/\
   HeapOk w' w.heap.size (fQ as ι) G (aZ tk as outs res) ι'/\RepA w' (Held (aZ tk as outs res) ι') G ι' (impAll as.length res) v:=by
  intro hfin;obtain⟨vs,vals,hfin,hvals,hrun⟩:=qy h1 rs hfin;have hsmall:res.all iO=true:=by simp only[jA,zB9]at hro;exact hro.2
  have h15:res.length<=15:=by simp only[jA,zB9,zC2]at hro;exact hro.1
  obtain⟨L,⟨hdj,hout⟩,pl,hrep⟩:=wt hsmall hfin;have hι0:∀j,j<as.length->kP ι1 as.length L j=ι1 j:=λj hj=>by simp only[kP,hj,zH3]
  have hι':∀j,j<as.length->LocEq (ι j) (kP ι1 as.length L j):=λj hj=>by
   rw[hι0 j hj];exact h1.loc j hj
  have eL:∀p∈L,kP ι1 as.length L p.1=p.2.2.loc (ι1 p.2.1):=by
   intro p hp;have hlo:=pl.lo p hp;have hfind:L.find? (λq=>q.1==p.1)=some p:=find_nodup pl.nums hp;simp only[kP,show ¬p.1<as.length from by omega,zE3,hfind]
  have e0:∀i,as.length<=i->(∀p∈L,p.1≠i)->kP ι1 as.length L i=⟨0,0,0,0,bC⟩:=by
   intro i hi hn;have hfind:L.find? (λq=>q.1==i)=none:=by
    rw[List.find?_eq_none];intro q hq;simpa using hn q hq
   simp only[kP,show ¬i<as.length from by omega,zE3,hfind]
  have fits:Fits ι1 (kP ι1 as.length L) as.length (as.length+16*res.length) L:=⟨eL,λi h1 _ h3=>by rw[e0 i h1 h3]⟩;have uniq:∀{p q},p∈L->q∈L->p.1=q.1->p=q:=λ{p q} hp hq e=>inj_nodup pl.nums hp hq e;have dj:∀{p q},p∈L->q∈L->p≠q->Dj p q:=λ{p q} hp hq hne=>dj_of hdj hp hq hne;have from_:∀i,aZ tk as outs res i=.dead\/(i<as.length/\aZ tk as outs res i=S.h i/\i∉L.map λp=>p.2.1)\/(as.length<=i/\From tk S.h L (i,aZ tk as outs res i)):=by
   intro i;unfold aZ;rcases qU (h:=gK as outs) (l:=impWs tk as.length res) (i:=i)with e|⟨b,hb,e⟩
   .rw[e]
    unfold gK;split
    .rename_i p c1 e1
     have hi:=(zB4.1 e1).1;split
     .rename_i c2 e2
      have:=hout i hi;rw[e1,e2]at this;exact .inr (.inl ⟨hi,this.1.symm,this.2⟩)
     .exact .inl rfl
    .exact .inl rfl
   .rw[e]
    exact .inr (.inr ⟨(pl.wsl _ hb).1,pl.src _ hb⟩)
  have cls:∀i B,owns (aZ tk as outs res i) (kP ι1 as.length L i) B->(i<as.length/\owns (S.h i) (ι1 i) B/\i∉L.map λp=>p.2.1)\/
    ∃p∈L,p.1=i/\(∀r,p.2.2≠ .n r)/\owns (S.h p.2.1) (ι1 p.2.1) B/\∀r,p.2.2.row=some r->((ι1 p.2.1).sub r).cap≠0/\((ι1 p.2.1).sub r).B=B/\∃m cs rs c,S.h p.2.1=.deep m cs rs/\rs[r]? =some (some c):=by
   intro i B ho;rcases from_ i with e|⟨hi,e,hni⟩|⟨hi,hfr⟩
   .rw[e]at ho;exact ho.elim
   .rw[e,hι0 i hi]at ho;exact .inl ⟨hi,ho,hni⟩
   .right
    rcases hfr with⟨id,off,len,m,c,q1,q2,q3,q4,q5⟩|⟨id,r,off,len,m,cs,rs,c,q1,q2,q3,q4,q5,q6⟩|⟨id,off,len,m,cs,rs,sel,rows,q1,q2,q3,q4,q5,q6,q7⟩|⟨q1,q2⟩
    .simp only at q5 q1
     rw[q5,eL _ q1]at ho;simp only[Pl.loc,owns]at ho;refine⟨_,q1,rfl,(λr e=>by cases e), ?_,λr e=>by cases e⟩;simp only[q2,owns];exact⟨by have:=ho.1;omega,ho.2⟩
    .simp only at q6 q1
     rw[q6,eL _ q1]at ho;simp only[Pl.loc,owns]at ho;have hc:((ι1 id).sub r).cap≠0:=by have:=ho.1;omega
     refine⟨_,q1,rfl,(λr e=>by cases e), ?_,λr' e=> ?_⟩
     .simp only[q2,owns]
      exact .inr ⟨r,c,q3,hc,ho.2⟩
     .simp only[Pl.row,zF2]at e
      subst e;exact⟨hc,ho.2,m,cs,rs,c,q2,q3⟩
    .simp only at q7 q1
     rw[q7,eL _ q1]at ho;refine⟨_,q1,rfl,(λr e=>by cases e), ?_,λr e=>by cases e⟩;simp only[q2];rcases ho with⟨ho1,ho2⟩|⟨j,c,hj,z,hB⟩
     .simp only[Pl.loc]at ho1 ho2
      exact .inl ⟨by omega,ho2⟩
     .have hlen:=fin1_sound.selD_len q5
      have hjl:j<((cs.drop off).take len).length:=by
       have:=(zB4.1 hj).1;simp only[zB2]at this;omega
      rcases uE q5 j _ (zA1 hjl)with⟨r,c',_,s1,s2,s3⟩|⟨_,s1,_⟩
      .have es:(Pl.loc (ι1 id) (.d off sel)).sub j=(ι1 id).sub r:=by simp only[Pl.loc,Loc.sub,s1]
       rw[es]at z hB;exact .inr ⟨r,c',s3,z,hB⟩
      .have es:((Pl.loc (ι1 id) (.d off sel)).sub j).cap=0:=by simp only[Pl.loc,Loc.sub,s1]
       exact absurd es z
    .simp only at q1 q2
     rw[e0 i hi q2]at ho;rcases q1 with q1|q1<;>rw[q1]at ho
     .exact absurd rfl ho.1
     .rcases ho with⟨ho,_⟩|⟨r,c,hr,_⟩
      .exact absurd rfl ho
      .simp at hr
  have held:∀B,Held (aZ tk as outs res) (kP ι1 as.length L) B->Held S.h ι1 B:=by
   rintro B ⟨i,ho⟩;rcases cls i B ho with⟨_,ho,_⟩|⟨p,_,_,_,ho,_⟩
   .exact⟨_,ho⟩
   .exact⟨_,ho⟩
  have rowsNe:∀{id r r':Nat} {m cs rs c m' cs' rs' c'},S.h id=.deep m cs rs->rs[r]? =some (some c)->S.h id=.deep m' cs' rs'->rs'[r']? =some (some c')->r≠r'->((ι1 id).sub r).cap≠0->((ι1 id).sub r').cap≠0->((ι1 id).sub r).B≠((ι1 id).sub r').B:=by
   intro id r r' m cs rs c m' cs' rs' c' e1 e2 e3 e4 hne z z';rw[e1]at e3;cases e3
   exact(h1.heap.deep e1).2.2.2.1 r c r' c' e2 e4 hne z z'
  have notIn:NotIn S.h ι1 (Held (aZ tk as outs res) (kP ι1 as.length L)) L:=by
   rintro k id r hk B ⟨i,ho⟩;rcases cls i B ho with⟨_,ho,hni⟩|⟨p,hp,_,hpn,ho,hrow⟩
   .have key:¬owns (S.h id) (ι1 id) B:=λho'=>by
     have:=h1.heap.apart i id B ho ho';subst this;exact hni (zD0.2 ⟨_,hk,rfl⟩)
    cases r with
    |none=>exact key
    |some r=>exact λm cs rs c e1 e2 z e=>key (by rw[e1];exact .inr ⟨r,c,e2,z,e⟩)
   .have hne:p≠(k,id,.n r):=λe=>hpn r (by rw[e])
    rcases dj hp hk hne with hd|⟨d1,d2,d3⟩
    .have key:¬owns (S.h id) (ι1 id) B:=λho'=>hd (h1.heap.apart p.2.1 id B ho ho')
     cases r with
     |none=>exact key
     |some r=>exact λm cs rs c e1 e2 z e=>key (by rw[e1];exact .inr ⟨r,c,e2,z,e⟩)
    .cases r with
     |none=>exact absurd rfl d2
     |some r=>
      intro m cs rs c e1 e2 z e;cases hpr:p.2.2.row with
      |none=>exact d1 hpr
      |some r'=>
       obtain⟨w1,w2,m',cs',rs',c',w3,w4⟩:=hrow r' hpr;by_cases hid:p.2.1=id
       .rw[hid]at w1 w2 w3
        refine rowsNe w3 w4 e1 e2 (λq=>d3 ?_) w1 z (w2.trans e.symm);rw[hpr,q];rfl
       .exact hid (h1.heap.apart p.2.1 id B ho (by rw[e1];exact .inr ⟨r,c,e2,z,e⟩))
  have st:Stays w' w' (Held S.h ι1) (Held (aZ tk as outs res) (kP ι1 as.length L)):=λB o v hF hv=>⟨hv,λhh=>hF (held B hh)⟩;have orgT:∀{m B},(m=true->tk=true)->Org w.heap.size (fQ as ι) G m B->Org w.heap.size (fQ as ι) G tk B:=λ{m B} hm h=>h.imp _root_.id λ⟨q1,q2⟩=>⟨hm q1,q2⟩;have ok:HeapOk w' w.heap.size (fQ as ι) G (aZ tk as outs res) (kP ι1 as.length L):=by
   refine⟨λi=> ?_,λi i' B ho ho'=> ?_⟩
   .rcases from_ i with e|⟨hi,e,hni⟩|⟨hi,hfr⟩
    .rw[e];trivial
    .rw[e,hι0 i hi]
     exact(h1.heap.ok i).tr st (λ_ _ _ h=>h) (λ_ _=>rfl) (λ_ _ _ h=>h)
    .have subrow:∀{m:Bool} {l:Loc} {c:List PV} {off len:Nat} {l':Loc},rowOk w' (Held S.h ι1) G (Org w.heap.size (fQ as ι) G m) l c->off+len<=c.length->(m=true->tk=true)->l'.B=l.B->l'.off=l.off+off->l'.cap=l.cap-off->
       rowOk w' (Held (aZ tk as outs res) (kP ι1 as.length L)) G (Org w.heap.size (fQ as ι) G tk) l' ((c.drop off).take len):=by
      intro m l c off len l' hr hle hm a1 a2 a3;obtain⟨g1,g2,g3⟩:=hr;have hlen':((c.drop off).take len).length=len:=by simp;omega
      refine⟨by rw[hlen',a3];omega,by omega, ?_⟩;by_cases hc0:l'.cap=0
      .exact .inl hc0
      .rcases g3 with g3|⟨⟨cs,E,lo,hi',hcell,hroom,hfr⟩,r2,r3⟩
       .omega
       .refine .inr ⟨⟨cs,E,lo,hi',by rw[a1];exact hcell,by rw[a2,a3];omega,hfr⟩, ?_,by rw[a1];exact orgT hm r3⟩
        rw[a1,a2];exact RepC.tr st (λ_ _ _ h=>h) _ _ _ (λ_ _ hv=>hv) (co (bQ r2 off) len)
     rcases hfr with⟨id,off,len,m,c,q1,q2,q3,q4,q5⟩|⟨id,r,off,len,m,cs,rs,c,q1,q2,q3,q4,q5,q6⟩|⟨id,off,len,m,cs,rs,sel,rows,q1,q2,q3,q4,q5,q6,q7⟩|⟨q1,q2⟩
     .simp only at q5 q1
      rw[q5,eL _ q1];exact subrow (m:=m) (l:=ι1 id) (c:=c) (by have:=h1.heap.ok id;rw[q2]at this;exact this) q3 q4 rfl rfl rfl
     .simp only at q6 q1
      rw[q6,eL _ q1];exact subrow (l:=(ι1 id).sub r) (h1.heap.deepRow q2 q3).2 q4 q5 rfl rfl rfl
     .simp only at q7 q1
      rw[q7,eL _ q1];have hlen:=fin1_sound.selD_len q5;have hl2:((cs.drop off).take len).length=len:=by simp;omega
      have okd:=h1.heap.deep q2;obtain⟨n1,⟨l1,l2,l3⟩,r1,d1,b1⟩:=okd;have at_:∀{j},j<rows.length->(∃r c,cs[off+j]? =some (.row r)/\sel[j]? =some (some r)/\rows[j]? =some c/\rs[r]? =some (some c)/\(Pl.loc (ι1 id) (.d off sel)).sub j=(ι1 id).sub r)\/
        (cs[off+j]? =some (.v (.sl .own []))/\sel[j]? =some none/\rows[j]? =some []/\(Pl.loc (ι1 id) (.d off sel)).sub j=⟨0,0,0,0,bC⟩):=by
       intro j hj;have hjl:j<((cs.drop off).take len).length:=by omega
       have hget:((cs.drop off).take len)[j]? =cs[off+j]? :=by rw[zH2,zB0 (by omega),zG0]
       have hx:=zA1 hjl;rcases uE q5 j _ hx with⟨r,c',s0,s1,s2,s3⟩|⟨s0,s1,s2⟩
       .exact .inl ⟨r,c',by rw[<-hget,hx,s0],s1,s2,s3,by simp only[Pl.loc,Loc.sub,s1]⟩
       .exact .inr ⟨by rw[<-hget,hx,s0],s1,s2,by simp only[Pl.loc,Loc.sub,s1]⟩
      have rowAt:∀{j c},(rows.map some)[j]? =some (some c)->j<rows.length/\rows[j]? =some c:=by
       intro j c hj;have hlt:=(zB4.1 hj).1;simp only[zB2]at hlt;refine⟨hlt, ?_⟩;simp only[zA5,zG2,zF2]at hj;obtain⟨x,hx,rfl⟩:=hj;exact hx
      refine⟨by simp only[zB2,Pl.loc];omega,⟨by simp only[canon,zB2,List.length_range,Pl.loc];omega,by simp only[Pl.loc];omega, ?_⟩,λj c hj=> ?_,λj c j' c' hj hj' hne z z'=> ?_,λj c hj hc0 z=> ?_⟩
      .by_cases hc0:(Pl.loc (ι1 id) (.d off sel)).cap=0
       .exact .inl hc0
       .right
        simp only[Pl.loc]at hc0;rcases l3 with l3|⟨⟨cells,E,lo,hi',hcell,hroom,hfr⟩,p2,p3⟩
        .omega
        .refine⟨⟨cells,E,lo,hi',hcell,by simp only[Pl.loc];omega,hfr⟩,orgT q4 p2,λj x hj=> ?_⟩
         obtain⟨rfl,hjl⟩:=OC hj;rcases at_ hjl with⟨r,c,s0,s1,s2,s3,s4⟩|⟨s0,s1,s2,s4⟩
         .obtain⟨v,v1,v2,v3⟩:=p3 _ _ s0
          refine⟨v,by simp only[Pl.loc];rw[zE9];exact v1,v2,by simpa using hjl,λc' hc'=> ?_⟩;obtain⟨_,hc'⟩:=rowAt hc';rw[s2]at hc';cases hc'
          rw[s4];exact v3.2 c s3
         .obtain⟨v,v1,v2,v3⟩:=p3 _ _ s0
          refine⟨v,by simp only[Pl.loc];rw[zE9];exact v1,v2,by simpa using hjl,λc' hc'=> ?_⟩;obtain⟨_,hc'⟩:=rowAt hc';rw[s2]at hc';cases hc'
          rw[s4];have v3:RepP w' (Held S.h ι1) G (.sl .own []) v:=v3;obtain⟨ad,cap,rfl,_,_,ho,_⟩:=jQ (F:=Held S.h ι1) (ι:=ι1) (v:=v) (by simpa only[RepA]using v3);obtain⟨_,rfl,rfl⟩:=ho rfl;exact⟨none,rfl,.inl rfl⟩
      .obtain⟨hjl,hj⟩:=rowAt hj
       rcases at_ hjl with⟨r,c',s0,s1,s2,s3,s4⟩|⟨s0,s1,s2,s4⟩
       .rw[s2]at hj;cases hj
        rw[s4];have:=subrow (off:=0) (len:=c.length) (l':=(ι1 id).sub r) (r1 r c s3) (by omega) q4 rfl rfl rfl
        rwa [zI3,zE6]at this
       .rw[s2]at hj;cases hj
        rw[s4];exact⟨zB1 _,Nat.zero_le _,.inl rfl⟩
      .obtain⟨hjl,hj⟩:=rowAt hj
       obtain⟨hjl',hj'⟩:=rowAt hj';rcases at_ hjl with⟨r,c0,s0,s1,s2,s3,s4⟩|⟨s0,s1,s2,s4⟩
       .rcases at_ hjl' with⟨r',c0',t0,t1,t2,t3,t4⟩|⟨t0,t1,t2,t4⟩
        .rw[s4]at z |-;rw[t4]at z' |-
         exact d1 r c0 r' c0' s3 t3 (λe=>hne (Qx q6 s1 (e▸t1))) z z'
        .rw[t4]at z';exact absurd rfl z'
       .rw[s4]at z;exact absurd rfl z
      .obtain⟨hjl,hj⟩:=rowAt hj
       rcases at_ hjl with⟨r,c0,s0,s1,s2,s3,s4⟩|⟨s0,s1,s2,s4⟩
       .rw[s4]at z |-
        exact b1 r c0 s3 (by simp only[Pl.loc]at hc0;omega) z
       .rw[s4]at z;exact absurd rfl z
     .simp only at q1 q2
      rw[e0 i hi q2];rcases q1 with q1|q1<;>rw[q1]
      .exact⟨zB1 _,Nat.zero_le _,.inl rfl⟩
      .exact⟨rfl,⟨zB1 _,Nat.zero_le _,.inl rfl⟩,λr c hr=>by simp at hr,λr c r' c' hr=>by simp at hr,λr c hr=>by simp at hr⟩
   .rcases cls i B ho with⟨_,o1,hni⟩|⟨p,hp,rfl,hpn,o1,hrow⟩<;>rcases cls i' B ho' with⟨_,o2,hni'⟩|⟨p',hp',rfl,hpn',o2,hrow'⟩
    .exact h1.heap.apart _ _ B o1 o2
    .have:=h1.heap.apart _ _ B o1 o2
     exact absurd (zD0.2 ⟨_,hp',this.symm⟩) hni
    .have:=h1.heap.apart _ _ B o1 o2
     exact absurd (zD0.2 ⟨_,hp,this⟩) hni'
    .by_cases hpp:p=p'
     .rw[hpp]
     .exfalso
      rcases dj hp hp' hpp with hd|⟨d1,d2,d3⟩
      .exact hd (h1.heap.apart _ _ B o1 o2)
      .cases hr1:p.2.2.row with
       |none=>exact d1 hr1
       |some r=>
        cases hr2:p'.2.2.row with
        |none=>exact d2 hr2
        |some r'=>
         obtain⟨w1,w2,m,cs,rs,c,w3,w4⟩:=hrow r hr1;obtain⟨w1',w2',m',cs',rs',c',w3',w4'⟩:=hrow' r' hr2;have hid:=h1.heap.apart _ _ B o1 o2;rw[<-hid]at w1' w2' w3';refine rowsNe w3 w4 w3' w4' (λe=>d3 ?_) w1 w1' (w2.trans w2'.symm);rw[hr1,hr2,e]
  refine⟨_,kP ι1 as.length L,Bt hres hrun,hι',h1.keep,ok, ?_⟩;have:=hrep h1.heap held (λB hB=>h1.new B hB) notIn fits hvals;have hl:vals.length=res.length:=by have:=d4 this;rw[this];exact imps_length _ _
  match vals,res,hl,this with
  |[],[],_,this=>simp only[impAll,RepA];exact⟨_,rfl,this⟩
  |[t],[x],_,this=>
   simp only[imps,RepAL]at this;obtain⟨v,vs',e,hx,rfl⟩:=this;simp only[List.cons.injEq,and_true]at e;simp only[impAll,Wt];rw[e];exact hx
  |t::t'::ts,x::x'::xs,_,this=>simp only[impAll,RepA];exact⟨_,rfl,this⟩
 cases ex with
 |exit id=>exact hq.elim
 |normal=>
  obtain⟨v,ι',hr,r⟩:=main hq;exact⟨h1.defers,v,hr,v,ι',rfl,r⟩
 |ret=>
  obtain⟨v,ι',hr,r⟩:=main hq;exact⟨h1.defers,v,hr,v,ι',rfl,r⟩
 where
 find_nodup {L:List (Nat×Nat×Pl)} (hn:(L.map (·.1)).Nodup) {p:Nat×Nat×Pl} (hp:p∈L):L.find? (λq=>q.1==p.1)=some p:=by
  induction L with
  |nil=>simp at hp
  |cons q L ih=>
   simp only[zC3,List.nodup_cons]at hn;rcases zD7.1 hp with rfl|hp
   .simp
   .have hne:¬q.1=p.1:=λe=>hn.1 (zD0.2 ⟨p,hp,e.symm⟩)
    rw[List.find?_cons_of_neg (by simpa using hne)];exact ih hn.2 hp
 inj_nodup {L:List (Nat×Nat×Pl)} (hn:(L.map (·.1)).Nodup) {p q:Nat×Nat×Pl} (hp:p∈L) (hq:q∈L) (e:p.1=q.1):p=q:=by
  induction L with
  |nil=>simp at hp
  |cons r L ih=>
   simp only[zC3,List.nodup_cons]at hn;rcases zD7.1 hp with e1|hp<;>rcases zD7.1 hq with e2|hq
   .rw[e1,e2]
   .rw[<-e1]at hn;exact absurd (zD0.2 ⟨q,hq,e.symm⟩) hn.1
   .rw[<-e2]at hn;exact absurd (zD0.2 ⟨p,hp,e⟩) hn.1
   .exact ih hn.2 hp hq
 dj_of {L:List (Nat×Nat×Pl)} (hd:L.Pairwise Dj) {p q:Nat×Nat×Pl} (hp:p∈L) (hq:q∈L) (hne:p≠q):Dj p q:=by
  have symm:∀{a b:Nat×Nat×Pl},Dj a b->Dj b a:=λh=>h.imp Ne.symm λ⟨h1,h2,h3⟩=>⟨h2,h1,Ne.symm h3⟩
  induction L with
  |nil=>simp at hp
  |cons r L ih=>
   rw[zF6]at hd;rcases zD7.1 hp with e1|hp<;>rcases zD7.1 hq with e2|hq
   .exact absurd (e1.trans e2.symm) hne
   .rw[e1];exact hd.1 q hq
   .rw[e2];exact symm (hd.1 p hp)
   .exact ih hd.2 hp hq
 imps_length:∀(xs:List PV) (k:Nat),(imps k xs).length=xs.length
  |[],_=>rfl
  |x::xs,k=>by simp[imps,imps_length xs]
end
end Go.Gl
