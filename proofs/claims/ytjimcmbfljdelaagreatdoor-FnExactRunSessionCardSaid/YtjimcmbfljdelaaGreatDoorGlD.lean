/-
 A program logic over the walk's rules, joined: what each operation does, second part. Conditions: those that each lemma names.
-/
import Derived.Test.YtjimcmbfljdelaaGreatDoorGlA
import Derived.Laws.IdiomStrings
import Derived.Laws.Tables
set_option linter.unusedSimpArgs false
set_option linter.unusedVariables false
set_option linter.unusedSectionVars false
variable{B B0 T cap g id k len n off r z:Nat}{A' F:Nat->Prop}{rs rs':List (Option (List Go.Gl.PV))}{v val zv:Go.Value}{m m' mt:Bool}{cs xs:List Go.Gl.DC}{o:Go.Oper}{ad:Option Go.Addr}{vals vs:List Go.Value}{K:Go.Gl.R->Prop}{dst e src t t':Go.TypeId}{s:List UInt8}{x y:Go.Operand}{c:List Go.Gl.PV}{b:Go.Gl.Blk}{h:Nat->Go.Gl.Blk}{places rd:List Nat}{ws:List (Nat×Go.Gl.Blk)}{q:Go.Gl.PV}
namespace Go.Gl
open Go
variable [Amb]
section
variable {P:Program}{sg:FuncId->List Bool}{w0:World}{nA nt:Nat}{M G:Nat->Prop}{ι0:Nat->Loc}{A:Nat->Prop}{w w':World}{S:St}{ι:Nat->Loc}{a:Act}
def Loc.merge(B off cap:Nat)(l l':Loc):Loc:=⟨B,off,cap,l.n+l'.n,λr=>if r<l.n then l.inn r else l'.inn (r-l.n)⟩
theorem ia{l l':Loc}(hr:r<l.n):(Loc.merge B off cap l l').sub r=l.sub r:=by simp[Loc.sub,Loc.merge,hr]
theorem Cb{l l':Loc}:(Loc.merge B off cap l l').sub (l.n+r)=l'.sub r:=by
 grind [Loc.sub,Loc.merge]
theorem gk{l l':Loc}(hr:¬r<l.n):(Loc.merge B off cap l l').sub r=l'.sub (r-l.n):=by simp[Loc.sub,Loc.merge,hr]
theorem dcRep.left{l l':Loc}{x:DC}(h:dcRep w F G l rs x v)(hs:x.noSelf=true)(hl:∀r,r<rs.length->l'.sub r=l.sub r):dcRep w F G l' (rs++rs') x v:=by
 cases x with
 |v x=>exact h
 |row r=>
  obtain⟨h1,h2⟩:=h;refine⟨by simp;omega,λc hc=> ?_⟩;grind
 |self o=>simp[DC.noSelf]at hs
theorem dcRep.right{l l':Loc}{x:DC}(h:dcRep w F G l rs' x v)(hs:x.noSelf=true)(hn:rs.length=n)(hl:∀r,r<rs'.length->l'.sub (n+r)=l.sub r):dcRep w F G l' (rs++rs') (x.up n) v:=by
 cases x with
 |v x=>exact h
 |row r=>
  obtain⟨h1,h2⟩:=h;refine⟨by simp;omega,λc hc=> ?_⟩;grind
 |self o=>simp[DC.noSelf]at hs
theorem EB{m':Bool}{cs cs':List DC}{l l':Loc}(hl:rs.length=l.n)
  (ho:owns (.deep m xs (rs++rs')) (Loc.merge B0 off cap l l') B):(cap≠0/\B0=B)\/(∃r c,rs[r]? =some (some c)/\(l.sub r).cap≠0/\(l.sub r).B=B)\/(∃r c,rs'[r]? =some (some c)/\(l'.sub r).cap≠0/\(l'.sub r).B=B):=by
 rcases ho with ho|⟨r,c,hr,h0,hB⟩
 .exact .inl ho
 grind [ia,gk]
theorem My{O:Bool->Nat->Prop}{cs':List DC}{l l':Loc}
  (h1:okB w F G O (.deep m cs rs) l) (h2:okB w F G O (.deep m' cs' rs') l') (hO:∀B,O m' B->O m B) (hap:∀B,owns (.deep m cs rs) l B->owns (.deep m' cs' rs') l' B->False)
  (hout:xs.length<=cap/\cap<=maxLen/\(cap=0\/(RowAt w (Loc.merge B0 off cap l l')/\O m B0/\
   ∀(j:Nat) (x:DC),xs[j]? =some x->∃v,w.cell? ⟨B0,off+j,none⟩=some v/\v.oneCell'=true/\dcRep w F G (Loc.merge B0 off cap l l') (rs++rs') x v)))
  (hB:cap≠0->(∀r c,rs[r]? =some (some c)->(l.sub r).cap≠0->(l.sub r).B≠B0)/\∀r c,rs'[r]? =some (some c)->(l'.sub r).cap≠0->(l'.sub r).B≠B0):
  okB w F G O (.deep m xs (rs++rs')) (Loc.merge B0 off cap l l'):=by
 obtain⟨n1,_,r1,d1,_⟩:=h1;obtain⟨n2,_,r2,d2,_⟩:=h2;have split:∀{r c},(rs++rs')[r]? =some (some c)->(r<l.n/\rs[r]? =some (some c))\/(¬r<l.n/\rs'[r-l.n]? =some (some c)):=by
  grind
 refine⟨by grind [Loc.merge],hout,λr c hr=> ?_,λr c r' c' hr hr' hne z z'=> ?_,λr c hr hc z=> ?_⟩
 .rcases split hr with⟨hlt,hr⟩|⟨hlt,hr⟩
  .grind [ia]
  .rw[gk hlt]
   obtain⟨g1,g2,g3⟩:=r2 _ c hr;exact⟨g1,g2,g3.imp _root_.id λ⟨q1,q2,q3⟩=>⟨q1,q2,hO _ q3⟩⟩
 .rcases split hr with⟨hlt,hr⟩|⟨hlt,hr⟩<;>rcases split hr' with⟨hlt',hr'⟩|⟨hlt',hr'⟩
  .grind [ia]
  .rw[ia hlt]at z |-;rw[gk hlt']at z' |-
   exact λe=>hap _ (.inr ⟨r,c,hr,z,rfl⟩) (.inr ⟨_,c',hr',z',e.symm⟩)
  .rw[gk hlt]at z |-;rw[ia hlt']at z' |-
   exact λe=>hap _ (.inr ⟨r',c',hr',z',rfl⟩) (.inr ⟨_,c,hr,z,e⟩)
  grind [gk]
 .obtain⟨b1,b2⟩:=hB hc
  rcases split hr with⟨hlt,hr⟩|⟨hlt,hr⟩
  .rw[ia hlt]at z |-;exact b1 r c hr z
  .rw[gk hlt]at z |-;exact b2 _ c hr z
theorem yF{O:Bool->Nat->Prop}{l:Loc}(h:okB w F G O (.deep m cs rs) l):
  ∃vs:List Value,vs.length=cs.length/\∀(i:Nat) (x:DC),cs[i]? =some x->∃v,vs[i]? =some v/\v.oneCell'=true/\dcRep w F G l rs x v/\w.cell? ⟨l.B,l.off+i,none⟩=some v:=by
 obtain⟨_,⟨h1,_,h3⟩,_⟩:=h;by_cases h0:l.cap=0
 .simp_all [zA4]
 .rcases h3 with h3|⟨_,_,h3⟩
  .exact absurd h3 h0
  .have key:∀n,n<=cs.length->∃vs:List Value,vs.length=n/\∀(i:Nat) (x:DC),i<n->cs[i]? =some x->∃v,vs[i]? =some v/\v.oneCell'=true/\dcRep w F G l rs x v/\w.cell? ⟨l.B,l.off+i,none⟩=some v:=by
    intro n
    induction n with
    |zero=>simp_all
    |succ n ih=>
     intro hn;obtain⟨vs,e,hv⟩:=ih (by omega);obtain⟨v,q1,q2,q3⟩:=h3 n _ (zA1 (show n<cs.length by omega));refine⟨vs++[v],by simp[e],λi x hi hx=> ?_⟩;grind
   obtain⟨vs,e,hv⟩:=key cs.length (zB1 _);grind
theorem u6{o:Nat}(hlen:vs.length=len)(ha:len=0\/ad=some ⟨B,o,none⟩)(hc:∀(i:Nat) (v:Value),vs[i]? =some v->w.cell? ⟨B,o+i,none⟩=some v):
  ∀w1:World,w1.heap=w.heap->(Builtin.firstCells 1 len (.slice ad len cap)).run P w1=.ok ⟨vs⟩ w1:=by
 intro w1 hw;by_cases h0:len=0
 .subst h0
  have:vs=[]:=zA4 hlen;subst this;cases ad<;>simp[Builtin.firstCells,loadCells,loadCellsFrom]
 grind [run_firstCells_some,fE,cell?_heap]
theorem LY(h:Org z M G false B):Org z M G m B:=by
 rcases h with h|⟨h,_⟩
 .exact .inl h
 .cases h
theorem tY(h:Rel w0 nA nt M G ι0 A w S ι a)(hd:∀d,o.dst=some d->d<nt)(hk0:¬A k){inf:TypeInfo}{s:Operand}
  (hu:P.underlying t=some (.slice e)) (hi:P.info? e=some inf) (hz:inf.zero=some zv) (hsz:inf.size=1) (hzs:zv.cells.size=1) (hz1:zv.oneCell'=true) (hb:inf.bytes<=64)
  (ht':(jK P t').isSome=true\/jX P t'=true)
  (exec:∀{r:Result Value} {sv:Value},a.eval s=sv->(Builtin.append_ #[t,t'] o.type #[sv,a.eval x]).run P w=r->(execOp a.eval o).run P w=r.andThen λv w'=>.ok (.value v) w')
  {j n:Nat} {cs':List DC} {rs':List (Option (List PV))} (hx:RepA w (Held S.h ι) G ι (.ref j 0 n) (a.eval x)) (hjA:A j) (hbj:S.h j=.deep false cs' rs') (hn:n=cs'.length) (hns':cs'.all DC.noSelf=true)
  {id len:Nat} {m:Bool} {cs:List DC} {rs:List (Option (List PV))} (hs:RepA w (Held S.h ι) G ι (.ref id 0 len) (a.eval s)) (hid:A id) (hbi:S.h id=.deep m cs rs) (hl:len=cs.length) (hns:cs.all DC.noSelf=true)
  (hne:id≠j) (hbig:len+n<=1099511627776) (hK:K ⟨.ref k 0 (len+n),[(j,.dead),(id,.dead),(k,.deep m (cs++cs'.map (DC.up rs.length)) (rs++rs'))],[id,j]⟩):Does P w0 nA nt M G ι0 A k o w S a K:=by
 have hki:id≠k:=λe=>hk0 (e▸hid);have hkj:j≠k:=λe=>hk0 (e▸hjA);have oki:=h.heap.deep hbi;have okj:=h.heap.deep hbj;obtain⟨olds,ol1,ol2⟩:=yF oki;obtain⟨news,nl1,nl2⟩:=yF okj;obtain⟨ad,cap,hv,hlc,hcap,hcm,hc⟩:=cS hs;obtain⟨ad',cap',hv',hlc',hcap',hcm',hc'⟩:=cS hx;have one:∀v∈news,v.oneCell'=true:=by
  intro v hm;obtain⟨i,hi'⟩:=List.getElem?_of_mem hm;have hlt:=(zB4.1 hi').1;obtain⟨u,u1,u2,_⟩:=nl2 i _ (zA1 (show i<cs'.length by omega));grind
 have hfirst':∀w1:World,w1.heap=w.heap->(Builtin.firstCells 1 n (.slice ad' n cap')).run P w1=.ok ⟨news⟩ w1:=by
  refine u6 (B:=(ι j).B) (o:=(ι j).off) (by omega) ?_ λi v hi'=> ?_
  .grind
  .have hlt:=(zB4.1 hi').1
   obtain⟨u,u1,_,_,u4⟩:=nl2 i _ (zA1 (show i<cs'.length by omega));grind
 have hfirst:∀w1:World,w1.heap=w.heap->(Builtin.firstCells 1 len (.slice ad len cap)).run P w1=.ok ⟨olds⟩ w1:=by
  refine u6 (B:=(ι id).B) (o:=(ι id).off) (by omega) ?_ λi v hi'=> ?_
  .grind
  .have hlt:=(zB4.1 hi').1
   obtain⟨u,u1,_,_,u4⟩:=ol2 i _ (zA1 (show i<cs.length by omega));grind
 have src:Src P w (a.eval x) news:=⟨λw1=>by simp_all [Builtin.lenOf],λw1 hw=>by grind,one⟩;have mk:∀{w':World} {F':Nat->Prop} {B0 off0 cap0:Nat},Stays w w' (Held S.h ι) F'->(∀(i:Nat) (v:Value),(olds++news)[i]? =some v->w'.cell? ⟨B0,off0+i,none⟩=some v)->
   ∀(i:Nat) (y:DC),(cs++cs'.map (DC.up rs.length))[i]? =some y->∃v,w'.cell? ⟨B0,off0+i,none⟩=some v/\v.oneCell'=true/\dcRep w' F' G (Loc.merge B0 off0 cap0 (ι id) (ι j)) (rs++rs') y v:=by
  intro w' F' B0 off0 cap0 st hcell i y hy;rw[zE5]at hy;split at hy
  .rename_i hlt
   obtain⟨v,v1,v2,v3,_⟩:=ol2 i y hy;refine⟨v,hcell i v (by grind),v2, ?_⟩;exact(dcRep.left v3 (zC8.1 hns _ (zF9 hy)) λr hr=>ia (by rw[<-oki.1];exact hr)).tr st λ_ _ _ h=>h
  .rename_i hge
   rw[zA5,zG2]at hy;obtain⟨y',hy',rfl⟩:=hy;obtain⟨v,v1,v2,v3,_⟩:=nl2 _ y' hy';refine⟨v,hcell i v (by grind),v2, ?_⟩;exact(dcRep.right v3 (zC8.1 hns' _ (zF9 hy')) rfl λr _=>by rw[oki.1];exact Cb).tr st λ_ _ _ h=>h
 have apij:∀B,owns (.deep m cs rs) (ι id) B->owns (.deep false cs' rs') (ι j) B->False:=λB h1 h2=>
  hne (h.heap.apart id j B (by rw[hbi];exact h1) (by rw[hbj];exact h2))
 have fin:∀{w':World} {B0 off0 cap0:Nat},cs.length+cs'.length<=cap0->cap0<=maxLen->(∀B,B<w.heap.size->B≠B0->w'.heap[B]? =w.heap[B]?)->
   (cap0≠0->B0=w.heap.size\/(B0=(ι id).B/\(ι id).cap≠0))->(B0<w.heap.size->cap0=0->w'.heap[B0]? =w.heap[B0]?)->
   (cap0=0\/(RowAt w' (Loc.merge B0 off0 cap0 (ι id) (ι j))/\Org w0.heap.size M G m B0/\∀(i:Nat) (v:Value),(olds++news)[i]? =some v->w'.cell? ⟨B0,off0+i,none⟩=some v))->
   HeapOk w' w0.heap.size M G (hwsH S.h [(j,.dead),(id,.dead),(k,.deep m (cs++cs'.map (DC.up rs.length)) (rs++rs'))]) (aE ι k (Loc.merge B0 off0 cap0 (ι id) (ι j)))/\
   Stays w w' (Held S.h ι) (Held (hwsH S.h [(j,.dead),(id,.dead),(k,.deep m (cs++cs'.map (DC.up rs.length)) (rs++rs'))]) (aE ι k (Loc.merge B0 off0 cap0 (ι id) (ι j)))):=by
  intro w' B0 off0 cap0 hle hmx hkeep hB0 hB00 hout;have ek:hwsH S.h [(j,.dead),(id,.dead),(k,.deep m (cs++cs'.map (DC.up rs.length)) (rs++rs'))] k=.deep m (cs++cs'.map (DC.up rs.length)) (rs++rs'):=by simp[hwsH]
  have eι:aE ι k (Loc.merge B0 off0 cap0 (ι id) (ι j)) k=Loc.merge B0 off0 cap0 (ι id) (ι j):=by simp[aE]
  have ei:hwsH S.h [(j,.dead),(id,.dead),(k,.deep m (cs++cs'.map (DC.up rs.length)) (rs++rs'))] id=.dead:=by simp[hwsH,hki]
  have ej:hwsH S.h [(j,.dead),(id,.dead),(k,.deep m (cs++cs'.map (DC.up rs.length)) (rs++rs'))] j=.dead:=by simp[hwsH,hkj]
  have cases:∀B,owns (.deep m (cs++cs'.map (DC.up rs.length)) (rs++rs')) (Loc.merge B0 off0 cap0 (ι id) (ι j)) B->(cap0≠0/\B0=B)\/(owns (S.h id) (ι id) B)\/owns (S.h j) (ι j) B:=by
   intro B ho;rcases EB (m':=m) (cs:=cs) (cs':=cs') oki.1 ho with h1|h1|h1
   .exact .inl h1
   .rw[hbi];exact .inr (.inl (.inr h1))
   .rw[hbj];exact .inr (.inr (.inr h1))
  have key:=h.heap.writeS (w':=w') (h':=hwsH S.h [(j,.dead),(id,.dead),(k,.deep m (cs++cs'.map (DC.up rs.length)) (rs++rs'))]) (ι':=aE ι k (Loc.merge B0 off0 cap0 (ι id) (ι j))) (k:=k) (λi=>i=id\/i=j)
   (λi hX hik=>by
    grind [hwsH,aE])
   (λi hX hik B ho=>by
    rcases hX with rfl|rfl
    .rw[ei]at ho;exact ho.elim
    .rw[ej]at ho;exact ho.elim)
   (λB hB hX=>by
    by_cases e:B=B0
    .subst e
     by_cases hc0:cap0=0
     .exact hB00 hB hc0
     .rcases hB0 hc0 with q|⟨q,q'⟩
      .omega
      .exact absurd (by rw[hbi];exact .inl ⟨q',q.symm⟩) (hX id (.inl rfl))
    .exact hkeep B hB e)
   (λB ho=>by
    rw[ek,eι]at ho;rcases cases B ho with⟨hc0,rfl⟩|q|q
    .rcases hB0 hc0 with q|⟨q,q'⟩
     .left;omega
     .right;exact⟨id,.inl rfl,by rw[hbi];exact .inl ⟨q',q.symm⟩,λ_=>by rw[ei];exact λq=>q⟩
    .exact .inr ⟨id,.inl rfl,q,λ_=>by rw[ei];exact λq=>q⟩
    .exact .inr ⟨j,.inr rfl,q,λ_=>by rw[ej];exact λq=>q⟩)
   (λst i hi'=>by
    rcases hi' with(rfl|rfl)|rfl
    .rw[ei];trivial
    .rw[ej];trivial
    .rw[ek,eι]
     have keepHeap:∀B,cap0≠0->B≠B0->B<w.heap.size->w'.heap[B]? =w.heap[B]? :=λB _ hne hlt=>hkeep B hlt hne;have tri:okB w' (Held (hwsH S.h [(j,.dead),(id,.dead),(i,.deep m (cs++cs'.map (DC.up rs.length)) (rs++rs'))]) (aE ι i (Loc.merge B0 off0 cap0 (ι id) (ι j)))) G (Org w0.heap.size M G) (.deep m [] rs) {(ι id)with cap:=0}:=by
      refine okB.tr (O:=Org w0.heap.size M G) st (λ_ _ _ h=>h) (λB ho=> ?_) (λ_ _ _ h=>h) ⟨oki.1,⟨zB1 _,Nat.zero_le _,.inl rfl⟩,oki.2.2.1,oki.2.2.2.1,λ_ _ _ hc=>absurd rfl hc⟩;rcases ho with⟨ho,_⟩|⟨r,c,hr,z,hB⟩
      .exact absurd rfl ho
      .have hlt:B<w.heap.size:=oki.lt (B:=B) (.inr ⟨r,c,hr,z,hB⟩)
       by_cases e:B=B0
       .subst e
        by_cases hc0:cap0=0
        .exact hB00 hlt hc0
        .rcases hB0 hc0 with q|⟨q,q'⟩
         .omega
         .exact absurd (hB.trans q) (oki.2.2.2.2 r c hr q' z)
       .exact hkeep B hlt e
     have trj:okB w' (Held (hwsH S.h [(j,.dead),(id,.dead),(i,.deep m (cs++cs'.map (DC.up rs.length)) (rs++rs'))]) (aE ι i (Loc.merge B0 off0 cap0 (ι id) (ι j)))) G (Org w0.heap.size M G) (.deep false [] rs') {(ι j)with cap:=0}:=by
      refine okB.tr (O:=Org w0.heap.size M G) st (λ_ _ _ h=>h) (λB ho=> ?_) (λ_ _ _ h=>h) ⟨okj.1,⟨zB1 _,Nat.zero_le _,.inl rfl⟩,okj.2.2.1,okj.2.2.2.1,λ_ _ _ hc=>absurd rfl hc⟩;rcases ho with⟨ho,_⟩|⟨r,c,hr,z,hB⟩
      .exact absurd rfl ho
      .have hlt:B<w.heap.size:=okj.lt (B:=B) (.inr ⟨r,c,hr,z,hB⟩)
       by_cases e:B=B0
       .subst e
        by_cases hc0:cap0=0
        .exact hB00 hlt hc0
        .rcases hB0 hc0 with q|⟨q,q'⟩
         .omega
         .exact(apij _ (.inl ⟨q',q.symm⟩) (.inr ⟨r,c,hr,z,hB⟩)).elim
       .exact hkeep B hlt e
     refine My (l:={(ι id)with cap:=0}) (l':={(ι j)with cap:=0}) tri trj (λB=>LY) (λB o1 o2=> ?_) ⟨by simp;omega,hmx,hout.imp _root_.id λ⟨q1,q2,q3⟩=>⟨q1,q2,mk st q3⟩⟩ λhc0=>⟨λr c hr z e=> ?_,λr c hr z e=> ?_⟩
     .rcases o1 with⟨q,_⟩|o1
      .exact absurd rfl q
      .rcases o2 with⟨q,_⟩|o2
       .exact absurd rfl q
       .exact apij B (.inr o1) (.inr o2)
     .rcases hB0 hc0 with q|⟨q,q'⟩
      .have:=oki.lt (B:=B0) (.inr ⟨r,c,hr,z,e⟩);omega
      .exact oki.2.2.2.2 r c hr q' z (e.trans q)
     .rcases hB0 hc0 with q|⟨q,q'⟩
      .have:=okj.lt (B:=B0) (.inr ⟨r,c,hr,z,e⟩);omega
      .exact apij B0 (.inl ⟨q',q.symm⟩) (.inr ⟨r,c,hr,z,e⟩))
  grind
 have dead:∀{i},¬gh A k i->hwsH S.h [(j,.dead),(id,.dead),(k,.deep m (cs++cs'.map (DC.up rs.length)) (rs++rs'))] i=.dead:=λ{i} hi'=>by
  have q1:i≠k:=λe=>hi' (.inr ⟨by omega,by omega⟩);have q2:i≠id:=λe=>hi' (.inl (e▸hid));have q3:i≠j:=λe=>hi' (.inl (e▸hjA));simp only[hwsH,q1,q2,q3,zE3];exact h.alloc i λhA=>hi' (.inl hA)
 have loc:∀{l:Loc} {i},A i->LocEq (ι i) (aE ι k l i):=λ{l i} hi'=>by
  grind [aE,LocEq.refl]
 have named:∀i,(AV.ref k 0 (len+n)).has i=true->gh A k i:=λi hi'=>by
  simp[AV.has]at hi';exact .inr ⟨by omega,by omega⟩
 by_cases hfit:len+n<=cap
 .by_cases hcap0:cap=0
  .subst hcap0
   have hr:=fT (P:=P) (w:=w) (w':=w) (ty:=o.type) hu hi hsz ht' (base:=ad) (sLen:=len) (sCap:=0) src (by omega) (λb _=>by
    have:news=[]:=zA4 (by omega);subst this;rfl) (λ_=>rfl)
   have hr2:=exec hv hr;intro Kc Qc next
   obtain⟨ok,st⟩:=fin (w':=w) (B0:=0) (off0:=0) (cap0:=0) (by omega) (Nat.zero_le _) (λ_ _ _=>rfl) (λq=>absurd rfl q) (λ_ _=>rfl) (.inl rfl);have h2:=h.step (A':=gh A k) (λi hi=>.inl hi) (Keep.refl w M) ok st (λi hi=>loc hi) (λi hi=>dead hi);refine cC hr2 (next _ _ _ (aE ι k (Loc.merge 0 0 0 (ι id) (ι j))) hK ?_);rw[bV];refine h2.put o.dst hd ?_ named;grind [RepA,aE,Loc.merge]
  .rcases hc with hc|rfl
   .exact absurd hc hcap0
   .have hcap1:(ι id).cap≠0:=by omega
    obtain⟨_,⟨g1,g2,g3⟩,_⟩:=oki;rcases g3 with g3|⟨⟨cells,E,lo,hi',hcell,hroom,hfr⟩,gx,_⟩
    .exact absurd g3 hcap1
    .have hst:=bY P (ι id).B ((ι id).off+len) E lo hi' news 0 cells w hcell (hfr.imp_right And.right) (by omega) one
     simp only[Nat.add_zero]at hst;have hr:=fT (P:=P) (w:=w) (ty:=o.type) hu hi hsz ht' (base:=some ⟨(ι id).B,(ι id).off+0,none⟩) (sLen:=len) (sCap:=cap) src (by omega) (λb hb=>by cases hb;rw[fE];exact hst) (λhb=>by cases hb);have hr2:=exec hv hr;simp only[zD6]at hr2;have hwr:Wrote w (w.setRow (ι id).B (cells.toList.take ((ι id).off+len)++news++cells.toList.drop ((ι id).off+len+news.length)).toArray) (ι id).B _:=Wrote.setRow hcell (by simp;omega);have hBk:w0.heap.size<=(ι id).B\/M (ι id).B:=by
      rcases gx with⟨g,_⟩|⟨_,g⟩
      .exact .inl g
      .exact .inr g
     have cellAt:∀(i:Nat) (v:Value),(olds++news)[i]? =some v->(w.setRow (ι id).B (cells.toList.take ((ι id).off+len)++news++cells.toList.drop ((ι id).off+len+news.length)).toArray).cell? ⟨(ι id).B,(ι id).off+i,none⟩=some v:=by
      intro i v hi2;obtain⟨_,_,_,_,hb2,_⟩:=hwr.at_;have hb2':=setRow_heap w (ι id).B cells (cells.toList.take ((ι id).off+len)++news++cells.toList.drop ((ι id).off+len+news.length)).toArray E (lo,hi') hcell;rw[cell?_eq,hb2'];simp only;have htk:(cells.toList.take ((ι id).off+len)).length=(ι id).off+len:=by simp;omega
      rw[zH8,zA7];rw[zE5]at hi2;split at hi2
      .rename_i hlt
       rw[zD8 (by omega),zH2,zB0 (by omega)];obtain⟨u,u1,_,_,u4⟩:=ol2 i _ (zA1 (show i<cs.length by omega));grind [cell?_eq]
      .rename_i hge
       have hlt:=(zB4.1 hi2).1;rw[zD1 (by omega),htk,zD8 (by omega),show(ι id).off+i-((ι id).off+len)=i-olds.length by omega];exact hi2
     intro Kc Qc next
     have hb2':=setRow_heap w (ι id).B cells (cells.toList.take ((ι id).off+len)++news++cells.toList.drop ((ι id).off+len+news.length)).toArray E (lo,hi') hcell;obtain⟨ok,st⟩:=fin (B0:=(ι id).B) (off0:=(ι id).off) (cap0:=(ι id).cap) (by omega) hcm (λB _ hB=>hwr.other B hB) (λ_=>.inr ⟨rfl,hcap1⟩) (λ_ q=>absurd q hcap1)
      (.inr ⟨⟨_,E,lo,hi',hb2',by simp[Loc.merge];omega,by grind⟩,gx,cellAt⟩)
     have h2:=h.stepK (A':=gh A k) (λi hi=>.inl hi) (hwr.keep hBk h.keep) ok st (λi hi=>loc hi) (λi hi=>dead hi);refine cC hr2 (next _ _ _ (aE ι k (Loc.merge (ι id).B (ι id).off (ι id).cap (ι id) (ι j))) hK ?_);rw[bV];refine h2.put o.dst hd ?_ named;simp only[RepA,aE,zH3,Loc.merge];exact⟨_,cap,by rw[nl1,<-hn],by omega,by omega,hcm,.inr rfl⟩
 .have hr:=jP (P:=P) (w:=w) (ty:=o.type) hu hi hz hsz hb ht' (base:=ad) (sLen:=len) (sCap:=cap) (olds:=olds) src (by omega) hfirst (by omega)
  have hr2:=exec hv hr;simp only[zD6]at hr2;have hgc:=grownCap_ge w (len+news.length) cap e;have hgm:=grownCap_le_maxLen w (len+news.length) cap e (by grind [maxLen]);have hzc:=iy hzs hz1;have hp:=Pushed.drew w (.cells (olds++news++(Builtin.zeroCells zv.cells (grownCap w (len+news.length) cap e-(len+news.length))).toList).toArray e);intro Kc Qc next
  obtain⟨ok,st⟩:=fin (B0:=w.heap.size) (off0:=0) (cap0:=grownCap w (len+news.length) cap e) (by omega) hgm (λB hB _=>hp.old hB) (λ_=>.inl rfl) (λq=>absurd q (Nat.lt_irrefl _))
   (.inr ⟨⟨_,e,0,0,hp.at,by grind [Loc.merge,Builtin.zeroCells],.inl (zB1 _)⟩,.inl ⟨h.keep.size,h.new _ h.keep.size⟩,λi v hi'=>by
    rw[cell?_eq,hp.at];grind⟩)
  have h2:=h.stepK (A':=gh A k) (λi hi=>.inl hi) (h.keep.trans (hp.keep M)) ok st (λi hi=>loc hi) (λi hi=>dead hi);refine cC hr2 (next _ _ _ (aE ι k (Loc.merge w.heap.size 0 (grownCap w (len+news.length) cap e) (ι id) (ι j))) hK ?_);rw[bV];refine h2.put o.dst hd ?_ named;simp only[RepA,aE,zH3,Loc.merge];exact⟨some ⟨w.heap.size,0,none⟩,grownCap w (len+news.length) cap e,by rw[nl1,<-hn],by omega,by omega,hgm,.inr rfl⟩
theorem Does.ghost{K':R->Prop}{S':St}(h:Does P w0 nA nt M G ι0 A' k o w S' a K')(hA:∀i,gh A' k i->gh A k i)
  (hK:∀r',K' r'->∃r,K r/\S.app o.dst r=S'.app o.dst r'):Does P w0 nA nt M G ι0 A k o w S a K:=by
 intro Kc Qc next
 refine h Kc Qc λr' val w' ι' hk' hrel=> ?_;obtain⟨r,hk,e⟩:=hK r' hk';refine next r val w' ι' hk ?_
 rw[e];exact hrel.mono hA
theorem Rel.empty(h:Rel w0 nA nt M G ι0 A w S ι a)(hg:¬A g):∃ι',Rel w0 nA nt M G ι0 (λi=>A i\/i=g) w {S with h:=updH S.h g (.deep false [] [])} ι' a/\(∀i,A i->ι' i=ι i)/\(ι' g).cap=0:=by
 obtain⟨ok,hh⟩:=h.heap.nilB (k:=g) (.deep false [] []) ⟨0,0,0,0,bC⟩ (λB ho=>by rcases ho with⟨ho,_⟩|⟨r,c,hr,_⟩<;>simp at*) λF=>
  ⟨rfl,⟨zB1 _,Nat.zero_le _,.inl rfl⟩,λr c hr=>by simp at hr,λr c r' c' hr=>by simp at hr,λr c hr=>by simp at hr⟩
 refine⟨_,h.step (A':=λi=>A i\/i=g) (λi hi=>.inl hi) (Keep.refl w M) ok (λB o v hF hv=>⟨hv,λh'=>hF (hh B h')⟩) (λi hi=> ?_) (λi hi=> ?_),λi hi=> ?_,by simp[aE]⟩
 .grind [aE,LocEq.refl]
 .have h1:i≠g:=λe=>hi (.inr e)
  simp only[updH,h1,zE3];exact h.alloc i λhA=>hi (.inl hA)
 grind [aE]
theorem Rel.take(h:Rel w0 nA nt M G ι0 A w S ι a)(hg:¬A g)(hid:A id)(hb:S.h id=.deep m cs rs)(hr:rs[r]? =some (some c)):
  Rel w0 nA nt M G ι0 (λi=>A i\/i=g) w {S with h:=updH (updH S.h id (.deep m cs (rs.set r none))) g (.live m c)} (aE ι g ((ι id).sub r)) a:=by
 have hgi:id≠g:=λe=>hg (e▸hid);have ok:=h.heap.deep hb;have hlt:=(zB4.1 hr).1;have hset:∀{q c'},(rs.set r none)[q]? =some (some c')->q≠r/\rs[q]? =some (some c'):=by
  grind
 have e1:updH (updH S.h id (.deep m cs (rs.set r none))) g (.live m c) id=.deep m cs (rs.set r none):=by simp[updH,hgi]
 have e2:aE ι g ((ι id).sub r) id=ι id:=by simp[aE,hgi]
 have e3:updH (updH S.h id (.deep m cs (rs.set r none))) g (.live m c) g=.live m c:=by simp[updH]
 have e4:aE ι g ((ι id).sub r) g=(ι id).sub r:=by simp[aE]
 have key:=h.heap.writeS (w':=w) (h':=updH (updH S.h id (.deep m cs (rs.set r none))) g (.live m c)) (ι':=aE ι g ((ι id).sub r)) (k:=g) (λi=>i=id)
  (λi hX hik=>⟨by grind [updH],by simp[aE,hik]⟩)
  (λi hX hik B ho=>by
   subst hX;rw[e1,e2]at ho;rw[hb];rcases ho with ho|⟨q,c',hq,z,hB⟩
   .exact .inl ho
   .exact .inr ⟨q,c',(hset hq).2,z,hB⟩)
  (λ_ _ _=>rfl)
  (λB ho=>by
   rw[e3,e4]at ho;refine .inr ⟨id,rfl,by rw[hb];exact .inr ⟨r,c,hr,ho⟩,λ_ ho'=> ?_⟩;rw[e1,e2]at ho';rcases ho' with⟨q1,q2⟩|⟨q,c',hq,z,hB⟩
   .exact ok.2.2.2.2 r c hr q1 ho.1 (ho.2.trans q2.symm)
   .obtain⟨hne,hq⟩:=hset hq
    exact ok.2.2.2.1 q c' r c hq hr hne z ho.1 (hB.trans ho.2.symm))
  (λst i hi=>by
   rcases hi with rfl|rfl
   .rw[e1,e2]
    obtain⟨n1,⟨l1,l2,l3⟩,r1,d1,b1⟩:=okB.tr (O':=Org w0.heap.size M G) st (λ_ _ _ h=>h) (λ_ _=>rfl) (λ_ _ _ h=>h) ok;refine⟨by simpa using n1,⟨l1,l2,l3.imp _root_.id λ⟨q1,q2,q3⟩=>⟨q1,q2,λj x hj=> ?_⟩⟩,λq c' hq=>r1 q c' (hset hq).2,λq c' q' c'' hq hq'=>d1 q c' q' c'' (hset hq).2 (hset hq').2,λq c' hq=>b1 q c' (hset hq).2⟩;obtain⟨v,v1,v2,v3⟩:=q3 j x hj;refine⟨v,v1,v2, ?_⟩;cases x with
    |v x=>exact v3
    |row q=>exact⟨by simpa using v3.1,λc' hc'=>v3.2 c' (hset hc').2⟩
    |self o=>exact v3
   .rw[e3,e4]
    exact(okB.tr (O':=Org w0.heap.size M G) st (λ_ _ _ h=>h) (λ_ _=>rfl) (λ_ _ _ h=>h) ok).2.2.1 r c hr)
 refine h.step (A':=λi=>A i\/i=g) (λi hi=>.inl hi) (Keep.refl w M) key.1 key.2.2 (λi hi=> ?_) (λi hi=> ?_)
 .grind [aE,LocEq.refl]
 .have h1:i≠g:=λe=>hi (.inr e)
  have h2:i≠id:=λe=>hi (.inl (e▸hid));simp only[updH,h1,h2,zE3];exact h.alloc i λhA=>hi (.inl hA)
theorem Dd(h:Rel w0 nA nt M G ι0 A w S ι a)(hd:∀d,o.dst=some d->d<nt)(hA:∀x,x<256->¬A (k+x)){s:Operand}
  (ho:o.op=.call {callee:=.builtin .append,args:=⟨[s,x]⟩,argTypes:=⟨[t,t']⟩}) (hK:uY P t t' S.h k (Gl.BH S s) (Gl.BH S x) K):Does P w0 nA nt M G ι0 A k o w S a K:=by
 obtain⟨ht,ht',hK⟩:=hK;obtain⟨e,inf,zv,hu,hi,hz,hsz,hzs,hz1,hb⟩:=da ht;have hs:=h.opd s;have ns:=h.opd_named s;have exec:∀{r:Result Value} {sv:Value},a.eval s=sv->(Builtin.append_ #[t,t'] o.type #[sv,a.eval x]).run P w=r->(execOp a.eval o).run P w=r.andThen λv w'=>.ok (.value v) w':=λh1 h2=>CT ho h1 h2;have hk0:¬A k:=by simpa using hA 0 (by omega)
 have hk1:¬A (k+1):=hA 1 (by omega);have hkA:¬(A k\/k=k+1):=λq=>q.elim hk0 (λq=>by omega);split at hK
 ·
  have hx:=h.opd x;have nx:=h.opd_named x;unfold iZ at hK;split at hK
  .rename_i j n ex
   rw[ex]at hx nx;have hjA:A j:=nx j (by simp[AV.has]);split at hK
   .rename_i cs' rs' hbj
    obtain⟨hn,hns',hK⟩:=hK;split at hK
    .rename_i id len es
     rw[es]at hs ns;have hid:A id:=ns id (by simp[AV.has]);obtain⟨hne,hK⟩:=hK;split at hK
     .rename_i m cs rs hbi
      obtain⟨hl,hns,hbig,hK⟩:=hK;exact tY h hd hk0 hu hi hz hsz hzs hz1 hb ht' exec hx hjA hbj hn hns' hs hid hbi hl hns hne hbig hK
     .exact hK.elim
    .rename_i es
     rw[es]at hs;obtain⟨ad,cap,hv,_,_,hown,_⟩:=jQ hs;obtain⟨_,rfl,rfl⟩:=hown rfl;obtain⟨hbig,hK⟩:=hK;obtain⟨ι1,h1,hι1,hc1⟩:=h.empty hk1;have hj1:j≠k+1:=λe=>hk1 (e▸hjA);have hD:=tY (K:=λr=>r=⟨.ref k 0 (0+n),[(j,.dead),(k+1,.dead),(k,.deep false ([]++cs'.map (DC.up 0)) ([]++rs'))],[k+1,j]⟩) h1 hd hkA hu hi hz hsz hzs hz1 hb ht' exec
      (j:=j) (n:=n) (cs':=cs') (rs':=rs') (by grind [RepA]) (.inl hjA) (by simp[updH,hj1,hbj]) hn hns' (id:=k+1) (len:=0) (m:=false) (cs:=[]) (rs:=[])
      (by grind [RepA]) (.inr rfl) (by simp[updH]) rfl rfl (Ne.symm hj1) (by omega) (by simp)
     refine hD.ghost (λi hi=> ?_) λr' hr'=>⟨_,hK, ?_⟩
     .rcases hi with(q|q)|q
      .exact .inl q
      .exact .inr ⟨by omega,by omega⟩
      .exact .inr q
     .subst hr'
      have eu:cs'.map (DC.up 0)=cs':=by
       rw[zH4 (g:=_root_.id) (λx _=>by cases x<;>simp[DC.up]),List.map_id]
      rw[bV,bV,eu];simp only[zI0,zE1,hwsH];congr 2;funext i;by_cases q1:i=k
      .simp[q1]
      .by_cases q2:i=k+1
       .simp[q2,h.alloc _ hk1,Ne.symm hj1]
       .simp[q1,q2,updH]
    .exact hK.elim
   .exact hK.elim
  .exact hK.elim
 .obtain⟨ys,rd,hK,news,hnl,src,hnews⟩:=Ft h (h.opd x) hK
  split at hK
  .rename_i id off len es
   rw[es]at hs ns;have hid:A id:=ns id (by simp[AV.has]);split at hK
   .rename_i m c hblk
    exact wX h hd hk0 hu hi hz hsz hzs hz1 hb ht' hnl src hnews exec hs hid hblk hK
   .exact hK.elim
  .rename_i es
   rw[es]at hs;obtain⟨ad,cap,hv,_,_,hown,_⟩:=jQ hs;obtain⟨_,rfl,rfl⟩:=hown rfl;obtain⟨hbig,hk⟩:=hK;by_cases hy:ys=[]
   .subst hy
    have hn0:news=[]:=zA4 (by rw[hnl];rfl);subst hn0;have hr:=fT (P:=P) (w:=w) (w':=w) (ty:=o.type) hu hi hsz ht' (base:=none) (sLen:=0) (sCap:=0) src (by simp) (λb hb=>by cases hb) (λ_=>rfl);have hr2:=exec hv hr;exact lg h hd hA (ad:=none) hr2 hk
   .have hpos:0<ys.length:=List.length_pos_iff.2 hy
    have hr:=jP (P:=P) (w:=w) (ty:=o.type) hu hi hz hsz hb ht' (base:=none) (sLen:=0) (sCap:=0) (olds:=[]) src (by omega) (λw1 _=>by simp[Builtin.firstCells]) (by omega);have hr2:=exec hv hr;simp only[zD6,zI0]at hr2;have hgc:=grownCap_ge w news.length 0 e;have hgm:=grownCap_le_maxLen w news.length 0 e (by grind [maxLen]);have hzc:=iy hzs hz1;refine mK h hd hA (ws:=[]) (λp hp=>by simp at hp) (Pushed.drew w (.cells ([]++news++(Builtin.zeroCells zv.cells (grownCap w news.length 0 e-news.length)).toList).toArray e)) (lo:=0) (hi:=0) (.inl (zB1 _)) false ys (grownCap w news.length 0 e) hgm
     (by grind [Builtin.zeroCells]) (by omega) ?_ (v:=.ref k 0 ys.length) hr2 (.inl ⟨ys.length,rfl,by omega,by rw[hnl]⟩) hk
    intro j y hj;have:=wY (w:=w) (G:=G) (olds:=[]) (cs:=[]) (F:=Held S.h ι) (rest:=(Builtin.zeroCells zv.cells (grownCap w news.length 0 e-news.length)).toList) rfl (λj x hj=>by simp at hj) hnews src.one j y (by simpa using hj);simpa[hwsH]using this
  .rename_i id r len es
   rw[es]at hs ns;have hid:A id:=ns id (by simp[AV.has]);have hi1:id≠k+1:=λe=>hk1 (e▸hid);have hi0:id≠k:=λe=>hk0 (e▸hid);split at hK
   .rename_i m cs rs hblk
    split at hK
    .rename_i c hr
     obtain⟨hlen,hnin,hbig,hK⟩:=hK;have h1:=h.take hk1 hid hblk hr;obtain⟨hrn,ad,cap,hv,hlc,hcap,hcm,hc⟩:=iQ hs;have st:∀B,Held (updH (updH S.h id (.deep m cs (rs.set r none))) (k+1) (.live m c)) (aE ι (k+1) ((ι id).sub r)) B->Held S.h ι B:=by
      rintro B ⟨i,hB⟩;by_cases q1:i=k+1
      .subst q1
       simp only[updH,aE,zH3]at hB;exact⟨id,by rw[hblk];exact .inr ⟨r,c,hr,hB⟩⟩
      .simp only[updH,aE,q1,zE3]at hB
       by_cases q2:i=id
       .subst q2
        simp only[zH3]at hB;refine⟨i, ?_⟩;rw[hblk];rcases hB with hB|⟨q,c',hq,z⟩
        .exact .inl hB
        .rw[List.getElem?_set]at hq
         split at hq
         .grind
         .exact .inr ⟨q,c',hq,z⟩
       .simp only[q2,zE3]at hB
        exact⟨i,hB⟩
     have hD:=wX (K:=λr'=>r'=⟨.ref k 0 (len+ys.length),[(k+1,.dead),(k,.live m (c++ys))],(k+1)::rd⟩) h1 hd hkA hu hi hz hsz hzs hz1 hb ht' hnl src
      (λj y hj=>by
       obtain⟨u,u1,u2⟩:=hnews j y hj;exact⟨u,u1,RepP.tr (λB o v hF hv=>⟨hv,λq=>hF (st B q)⟩) (λ_ _ _ h=>h) _ _ u2⟩) exec (id:=k+1) (off:=0) (len:=len) (m:=m) (c:=c)
      (by grind [RepA,aE]) (.inr rfl) (by simp[updH]) ⟨hbig,by omega,by
       simp only[zI0];rw[zB0 hlen,zI3]⟩
     refine hD.ghost (λi hi=> ?_) λr' hr'=>⟨_,hK, ?_⟩
     .rcases hi with(q|q)|q
      .exact .inl q
      .exact .inr ⟨by omega,by omega⟩
      .exact .inr q
     .subst hr'
      rw[bV,bV];simp only[hwsH];congr 2;funext i;by_cases q1:i=k
      .simp[q1]
      .by_cases q2:i=k+1
       .simp[q2,h.alloc _ hk1,Ne.symm hi1]
       .simp[q1,q2,updH]
    .exact hK.elim
   .exact hK.elim
  .exact hK.elim
end
section
variable {P:Program}{sg:FuncId->List Bool}{w0:World}{nA nt:Nat}{M G:Nat->Prop}{ι0:Nat->Loc}{A:Nat->Prop}{w w':World}{S:St}{ι:Nat->Loc}{a:Act}
def Loc.push(l l':Loc):Loc:=⟨l.B,l.off,l.cap,l.n+1,λr=>if r<l.n then l.inn r else(l'.B,l'.off,l'.cap)⟩
theorem kL{l l':Loc}(hr:r<l.n):(l.push l').sub r=l.sub r:=by simp[Loc.sub,Loc.push,hr]
theorem vE{l l':Loc}:((l.push l').sub l.n).B=l'.B/\((l.push l').sub l.n).off=l'.off/\((l.push l').sub l.n).cap=l'.cap:=by simp[Loc.sub,Loc.push]
theorem zL(l l':Loc):LocEq l (l.push l'):=⟨rfl,rfl,rfl,by simp[Loc.push],λr hr=>by simp[Loc.push,hr]⟩
theorem rowOk.loc{O:Nat->Prop}{l l':Loc}(h:rowOk w F G O l c)(e1:l'.B=l.B)(e2:l'.off=l.off)(e3:l'.cap=l.cap):rowOk w F G O l' c:=by
 obtain⟨B,off,cap,n,inn⟩:=l;obtain⟨B',off',cap',n',inn'⟩:=l';simp only at e1 e2 e3;subst e1 e2 e3;exact h
theorem Org.any{M G:Nat->Prop}(h:Org z M G false B):Org z M G m B:=h.elim .inl λh=>by cases h.1
theorem rowOk.any{l:Loc}(h:rowOk w F G (Org z M G false) l c):rowOk w F G (Org z M G m) l c:=⟨h.1,h.2.1,h.2.2.imp _root_.id λ⟨a,b,c⟩=>⟨a,b,c.any⟩⟩
theorem rowOk.org{l:Loc}(hm:m'=true->m=true)(h:rowOk w F G (Org z M G m') l c):rowOk w F G (Org z M G m) l c:=⟨h.1,h.2.1,h.2.2.imp _root_.id λ⟨a,b,c⟩=>⟨a,b,c.imp _root_.id λq=>⟨hm q.1,q.2⟩⟩⟩
variable {mT:Bool}
theorem Rel.absorb(h:Rel w0 nA nt M G ι0 A w S ι a){j:Nat}(hT:A T)(hj:A j)(hjT:j≠T)(hb:S.h T=.deep mT cs rs){l:Loc}
  (hrow:∀{w':World} {F':Nat->Prop},Stays w w' (Held S.h ι) F'->w'.heap=w.heap->rowOk w' F' G (Org w0.heap.size M G mT) l c) (hown:l.cap≠0->owns (S.h j) (ι j) l.B) (hleft:∀B,owns b (ι j) B->owns (S.h j) (ι j) B/\(l.cap≠0->l.B≠B))
  (hok:∀{w':World} {F':Nat->Prop},Stays w w' (Held S.h ι) F'->w'.heap=w.heap->okB w' F' G (Org w0.heap.size M G) b (ι j)):
  Rel w0 nA nt M G ι0 A w {S with h:=updH (updH S.h j b) T (.deep mT cs (rs++[some c]))} (aE ι T ((ι T).push l)) a/\
  (∀(x:DC) (v:Value),dcRep w (Held S.h ι) G (ι T) rs x v->dcRep w (Held (updH (updH S.h j b) T (.deep mT cs (rs++[some c]))) (aE ι T ((ι T).push l))) G ((ι T).push l) (rs++[some c]) x v)/\
  (∀B,Held (updH (updH S.h j b) T (.deep mT cs (rs++[some c]))) (aE ι T ((ι T).push l)) B->Held S.h ι B):=by
 have okT:=h.heap.deep hb;have n1:=okT.1;have e1:updH (updH S.h j b) T (.deep mT cs (rs++[some c])) T=.deep mT cs (rs++[some c]):=by simp[updH]
 have e2:updH (updH S.h j b) T (.deep mT cs (rs++[some c])) j=b:=by simp[updH,hjT]
 have e3:aE ι T ((ι T).push l) T=(ι T).push l:=by simp[aE]
 have e4:aE ι T ((ι T).push l) j=ι j:=by simp[aE,hjT]
 have split:∀{r c'},(rs++[some c])[r]? =some (some c')->(r<(ι T).n/\rs[r]? =some (some c'))\/(r=(ι T).n/\c'=c):=by
  grind
 obtain⟨p1,p2,p3⟩:=vE (l:=ι T) (l':=l);have jT:∀{B},owns (S.h j) (ι j) B->owns (S.h T) (ι T) B->False:=λh1 h2=>hjT (h.heap.apart j T _ h1 h2);have ownT:∀B,owns (.deep mT cs (rs++[some c])) ((ι T).push l) B->owns (S.h T) (ι T) B\/(l.cap≠0/\l.B=B):=by
  intro B ho;rw[hb];rcases ho with ho|⟨r,c',hr,z,hB⟩
  .exact .inl (.inl ho)
  .rcases split hr with⟨hlt,hr⟩|⟨rfl,rfl⟩
   .rw[kL hlt]at z hB;exact .inl (.inr ⟨r,c',hr,z,hB⟩)
   omega
 have dc:∀{w':World} {F':Nat->Prop},Stays w w' (Held S.h ι) F'->∀(x:DC) (v:Value),dcRep w (Held S.h ι) G (ι T) rs x v->dcRep w' F' G ((ι T).push l) (rs++[some c]) x v:=by
  intro w' F' st x v hx;cases x with
  |v x=>exact RepP.tr st (λ_ _ _ h=>h) _ _ hx
  |row r=>
   obtain⟨q1,q2⟩:=hx;refine⟨by simp;omega,λc' hc'=> ?_⟩;grind [kL]
  |self o=>exact hx
 have key:=h.heap.writeS (w':=w) (h':=updH (updH S.h j b) T (.deep mT cs (rs++[some c]))) (ι':=aE ι T ((ι T).push l)) (k:=T) (λi=>i=T\/i=j)
  (λi hX hik=>by
   grind [updH,aE])
  (λi hX hik B ho=>by
   grind)
  (λ_ _ _=>rfl)
  (λB ho=>by
   grind)
  (λst i hi=>by
   have hi:i=T\/i=j:=by omega
   rcases hi with rfl|rfl
   .rw[e1,e3]
    obtain⟨_,⟨l1,l2,l3⟩,r1,d1,b1⟩:=okT;obtain⟨_,⟨_,_,l3'⟩,r1',_⟩:=okB.tr (O':=Org w0.heap.size M G) st (λ_ _ _ h=>h) (λ_ _=>rfl) (λ_ _ _ h=>h) (h.heap.deep hb);refine⟨by simp[Loc.push,n1],⟨l1,l2, ?_⟩,λr c' hr=> ?_,λr c' r' c'' hr hr' hne z z'=> ?_,λr c' hr hc z=> ?_⟩
    .by_cases h0:(ι i).cap=0
     .exact .inl h0
     .right
      rcases l3 with l3|⟨q1,q2,q3⟩
      .exact absurd l3 h0
      .refine⟨q1,q2,λjj x hjj=> ?_⟩
       obtain⟨v,v1,v2,v3⟩:=q3 jj x hjj;exact⟨v,v1,v2,dc st x v v3⟩
    .rcases split hr with⟨hlt,hr⟩|⟨rfl,rfl⟩
     .grind [kL]
     .exact(hrow st rfl).loc p1 p2 p3
    .rcases split hr with⟨hlt,hr1⟩|⟨e1,e2⟩<;>rcases split hr' with⟨hlt',hr2⟩|⟨e1',e2'⟩
     .grind [kL]
     .rw[kL hlt]at z |-;rw[e1',p3]at z';rw[e1',p1]
      exact λe=>jT (hown z') (by rw[hb];exact .inr ⟨r,c',hr1,z,e⟩)
     .rw[kL hlt']at z' |-;rw[e1,p3]at z;rw[e1,p1]
      exact λe=>jT (hown z) (by rw[hb];exact .inr ⟨r',c'',hr2,z',e.symm⟩)
     omega
    .rcases split hr with⟨hlt,hr⟩|⟨rfl,rfl⟩
     .rw[kL hlt]at z |-;exact b1 r c' hr hc z
     .rw[p3]at z;rw[p1]
      exact λe=>jT (hown z) (by rw[hb];exact .inl ⟨hc,e.symm⟩)
   grind)
 refine⟨h.step (λ_ h=>h) (Keep.refl w M) key.1 key.2.2 (λi hi=> ?_) (λi hi=> ?_),λx v hx=>dc key.2.2 x v hx,λB hB=> ?_⟩
 .grind [zL,aE,LocEq.refl]
 .have q1:i≠T:=λe=>hi (e▸hT)
  have q2:i≠j:=λe=>hi (e▸hj);simp only[updH,q1,q2,zE3];exact h.alloc i hi
 .rcases key.2.1 B hB with h1|h1
  .exact h1
  .obtain⟨i,ho⟩:=hB
   exfalso;have:=(key.1.ok i).lt ho;omega
structure Moved(mT:Bool)(w0:World)(nA nt:Nat)(M G:Nat->Prop)(ι0:Nat->Loc)(A:Nat->Prop)(w:World)(S:St)(ι:Nat->Loc)(a:Act)(T:Nat)(cs:List DC)(rs rs':List (Option (List PV)))(ws:List (Nat×Blk))(ι':Nat->Loc):Prop where
 rel:Rel w0 nA nt M G ι0 A w {S with h:=updH (hwsH S.h ws) T (.deep mT cs rs')} ι' a
 old:∀(x:DC) (v:Value),dcRep w (Held S.h ι) G (ι T) rs x v->dcRep w (Held (updH (hwsH S.h ws) T (.deep mT cs rs')) ι') G (ι' T) rs' x v
 held:∀B,Held (updH (hwsH S.h ws) T (.deep mT cs rs')) ι' B->Held S.h ι B
 loc:∀i,LocEq (ι i) (ι' i)
theorem FH{l:Loc}(e:LocEq (ι T) l)(i:Nat):LocEq (ι i) (aE ι T l i):=by
 grind [aE,LocEq.refl]
theorem FI{l:Loc}:aE ι T l T=l:=by simp[aE]
theorem ve(e:h T=b):updH h T b=h:=by
 grind [updH]
theorem kb:aE ι T (ι T)=ι:=by
 grind [aE]
theorem Ic(h:Rel w0 nA nt M G ι0 A w S ι a)(hT:A T)(hb:S.h T=.deep mT cs rs){v:AV}(hv:RepA w (Held S.h ι) G ι v val)(hn:∀i,v.has i=true->A i)
  {K:DC->List (Option (List PV))->List (Nat×Blk)->List Nat->Prop} (hK:xh S.h mT T v rs K):
  ∃x rs' ws rd ι',K x rs' ws rd/\Moved mT w0 nA nt M G ι0 A w S ι a T cs rs rs' ws ι'/\val.oneCell'=true/\val.cells= #[val]/\dcRep w (Held (updH (hwsH S.h ws) T (.deep mT cs rs')) ι') G (ι' T) rs' x val:=by
 have none_:Moved mT w0 nA nt M G ι0 A w S ι a T cs rs rs [] ι:=by
  have e:updH (hwsH S.h []) T (.deep mT cs rs)=S.h:=ve hb;refine⟨by rw[e];exact h,by grind,by grind,λ_=>LocEq.refl _⟩
 have e0:updH (hwsH S.h []) T (.deep mT cs rs)=S.h:=ve hb;have one_cells:∀{u:Value},u.oneCell'=true->u.cells= #[u]:=λ{u} hu=>by cases u<;>first|rfl|simp[Value.oneCell']at hu
 unfold xh at hK;split at hK
 .rename_i x
  simp only[RepA]at hv;rcases hK with⟨hx,hk⟩|⟨rfl,hk⟩
  .have h1:=bN hx hv
   exact⟨_,_,_,_,ι,hk,none_,h1,one_cells h1,by rw[e0];exact hv⟩
  .obtain⟨ad,cap,rfl,_⟩:=jQ (F:=Held S.h ι) (ι:=ι) (v:=val) (by simpa only[RepA]using hv)
   exact⟨_,_,_,_,ι,hk,none_,rfl,rfl,by rw[e0];exact hv⟩
 .rename_i j off len
  obtain⟨hjT,hK⟩:=hK;have hj:A j:=hn j (by simp[AV.has]);obtain⟨ad,cap,rfl,hl,hcap,hcm,hc⟩:=cS hv;split at hK
  .rename_i mj c hbj
   obtain⟨hmm,rfl,hlen,hk⟩:=hK;obtain⟨m1,m2,m3⟩:=h.absorb (T:=T) (j:=j) hT hj hjT hb (c:=c) (l:=ι j) (b:=.dead) (λst hw=>by
    have:=okB.tr (O':=Org w0.heap.size M G) st (λ_ _ _ h=>h) (λ_ _=>by rw[hw]) (λ_ _ _ h=>h) (by have:=h.heap.ok j;rwa [hbj]at this);exact rowOk.org hmm this) (λh0=>kf hbj h0) (λB ho=>ho.elim) (λ_ _=>trivial)
   refine⟨_,_,_,_,aE ι T ((ι T).push (ι j)),hk,⟨m1,by rw[FI];exact m2,m3,FH (zL _ _)⟩,rfl,rfl, ?_⟩;have n1:=(h.heap.deep hb).1;refine⟨by simp,λc' hc'=> ?_⟩;obtain⟨p1,p2,p3⟩:=vE (l:=ι T) (l':=ι j);have hc2:c'=c:=by simpa using hc'.symm
   subst hc2;have e:aE ι T ((ι T).push (ι j)) T=(ι T).push (ι j):=by simp[aE]
   rw[e,n1];refine⟨ad,by grind, ?_⟩;grind
  .rename_i m c hbj
   obtain⟨hle,hk⟩:=hK;refine⟨_,_,_,_,ι,hk,none_,rfl,rfl, ?_⟩;rw[e0];exact rK h.heap (Frz.refl _) hbj hle hv
  .exact hK.elim
 .rename_i j r off len
  obtain⟨rfl,hK⟩:=hK;have hj:A j:=hn j (by simp[AV.has]);obtain⟨hrn,ad,cap,rfl,hl,hcap,hcm,hc⟩:=iQ hv;split at hK
  .rename_i ejT
   subst ejT;split at hK
   .rename_i c hr
    obtain⟨hlen,hk⟩:=hK;refine⟨_,_,_,_,ι,hk,none_,rfl,rfl, ?_⟩;refine⟨(zB4.1 hr).1,λc' hc'=> ?_⟩;rw[hr]at hc';cases hc'
    exact⟨ad,by grind,hc.imp (λq=>by omega) λq=>by simpa using q⟩
   .exact hK.elim
  .rename_i hjT
   split at hK
   .rename_i cs' rs' hbj
    split at hK
    .rename_i c hr
     obtain⟨hlen,hk⟩:=hK;have okj:=h.heap.deep hbj;have hset:∀{q c'},(rs'.set r none)[q]? =some (some c')->q≠r/\rs'[q]? =some (some c'):=by
      grind
     obtain⟨m1,m2,m3⟩:=h.absorb (T:=T) (j:=j) hT hj hjT hb (c:=c) (l:=(ι j).sub r) (b:=.deep false cs' (rs'.set r none)) (λst hw=>by
       have:=okB.tr (O':=Org w0.heap.size M G) st (λ_ _ _ h=>h) (λ_ _=>by rw[hw]) (λ_ _ _ h=>h) okj;exact rowOk.any (this.2.2.1 r c hr)) (λh0=>by rw[hbj];exact .inr ⟨r,c,hr,h0,rfl⟩)
      (λB ho=>by
       rw[hbj];rcases ho with ho|⟨q,c',hq,z,hB⟩
       .exact⟨.inl ho,λz e=>okj.2.2.2.2 r c hr ho.1 z (e.trans ho.2.symm)⟩
       .obtain⟨hne,hq⟩:=hset hq
        exact⟨.inr ⟨q,c',hq,z,hB⟩,λz' e=>okj.2.2.2.1 q c' r c hq hr hne z z' (hB.trans e.symm)⟩)
      (λst hw=>by
       obtain⟨n1,⟨l1,l2,l3⟩,r1,d1,b1⟩:=okB.tr (O':=Org w0.heap.size M G) st (λ_ _ _ h=>h) (λ_ _=>by rw[hw]) (λ_ _ _ h=>h) okj;refine⟨by simpa using n1,⟨l1,l2,l3.imp _root_.id λ⟨q1,q2,q3⟩=>⟨q1,q2,λjj x hjj=> ?_⟩⟩,λq c' hq=>r1 q c' (hset hq).2,λq c' q' c'' hq hq'=>d1 q c' q' c'' (hset hq).2 (hset hq').2,λq c' hq=>b1 q c' (hset hq).2⟩;obtain⟨u,v1,v2,v3⟩:=q3 jj x hjj;refine⟨u,v1,v2, ?_⟩;cases x with
       |v x=>exact v3
       |row q=>exact⟨by simpa using v3.1,λc' hc'=>v3.2 c' (hset hc').2⟩
       |self o=>exact v3)
     refine⟨_,_,_,_,aE ι T ((ι T).push ((ι j).sub r)),hk,⟨m1,by rw[FI];exact m2,m3,FH (zL _ _)⟩,rfl,rfl, ?_⟩;have n1:=(h.heap.deep hb).1;refine⟨by simp,λc' hc'=> ?_⟩;obtain⟨p1,p2,p3⟩:=vE (l:=ι T) (l':=(ι j).sub r);have hc2:c'=c:=by simpa using hc'.symm
     subst hc2;have e:aE ι T ((ι T).push ((ι j).sub r)) T=(ι T).push ((ι j).sub r):=by simp[aE]
     rw[e,n1];refine⟨ad,by grind, ?_⟩;grind
    .exact hK.elim
   .exact hK.elim
 .rename_i j o
  obtain⟨rfl,hk⟩:=hK;simp only[RepA]at hv;subst hv;exact⟨_,_,_,_,ι,hk,none_,rfl,rfl,rfl⟩
 .exact hK.elim
theorem NI{v:AV}{K:DC->List (Option (List PV))->List (Nat×Blk)->List Nat->Prop}(hK:xh h mt T v rs K):
  ∃x rs' ws rd,K x rs' ws rd/\(∀p∈ws,p.1∈rd)/\T∉rd/\∀h',(∀i∈rd,h' i=h i)->∀K':DC->List (Option (List PV))->List (Nat×Blk)->List Nat->Prop,K' x rs' ws rd->xh h' mt T v rs K':=by
 unfold xh at hK;split at hK
 .rename_i x
  rcases hK with⟨hx,hk⟩|⟨hx,hk⟩
  .exact⟨_,_,_,_,hk,by simp,by simp,λh' _ K' hk'=>.inl ⟨hx,hk'⟩⟩
  .exact⟨_,_,_,_,hk,by simp,by simp,λh' _ K' hk'=>.inr ⟨hx,hk'⟩⟩
 .grind [xh]
 .grind [xh]
 .exact⟨_,_,_,_,hK.2,by simp,by simp,λh' _ K' hk'=>⟨hK.1,hk'⟩⟩
 .exact hK.elim
theorem GV{h':Nat->Blk}{i:Nat}(e:h' i=h i):∀{ws:List (Nat×Blk)},hwsH h' ws i=hwsH h ws i:=by
 intro ws
 induction ws generalizing h h' with
 |nil=>exact e
 |cons p ws ih=>
  obtain⟨j,b⟩:=p;simp only[hwsH];grind
def OX(mt:Bool)(h:Nat->Blk)(T:Nat):List AV->List (Option (List PV))->List DC->List (Option (List PV))->List (Nat×Blk)->List Nat->Prop
 |[],rs,xs,rs',ws,rd=>xs=[]/\rs'=rs/\ws=[]/\rd=[]
 |v::vs,rs,xs,rs',ws,rd=>∃x rs1 ws1 rd1 xs2 ws2 rd2,xh h mt T v rs (λa b c d=>a=x/\b=rs1/\c=ws1/\d=rd1)/\OX mt (hwsH h ws1) T vs rs1 xs2 rs' ws2 rd2/\
   (∀p∈ws1,p.1∈rd1)/\T∉rd1/\xs=x::xs2/\ws=ws1++ws2/\rd=rd1++rd2
theorem ng{mt:Bool}{T:Nat}:∀{vs:List AV} {h:Nat->Blk} {rs:List (Option (List PV))} {K:List DC->List (Option (List PV))->List (Nat×Blk)->List Nat->Prop},kO h mt T vs rs K->
  ∃xs rs' ws rd,K xs rs' ws rd/\OX mt h T vs rs xs rs' ws rd/\(∀p∈ws,p.1∈rd)/\T∉rd/\∀h',(∀i∈rd,h' i=h i)->∀K':List DC->List (Option (List PV))->List (Nat×Blk)->List Nat->Prop,K' xs rs' ws rd->kO h' mt T vs rs K'
 |[],h,rs,K,hK=>⟨[],rs,[],[],hK,⟨rfl,rfl,rfl,rfl⟩,by simp,by simp,λ_ _ _ hk=>hk⟩
 |v::vs,h,rs,K,hK=>by
  simp only[kO]at hK;obtain⟨x,rs1,ws1,rd1,hK,q1,q2,q3⟩:=NI hK;obtain⟨xs2,rs2,ws2,rd2,hK,r1,r2,r3,r4⟩:=ng hK;refine⟨x::xs2,rs2,ws1++ws2,rd1++rd2,hK,⟨x,rs1,ws1,rd1,xs2,ws2,rd2,q3 h (λ_ _=>rfl) _ ⟨rfl,rfl,rfl,rfl⟩,r1,q1,q2,rfl,rfl,rfl⟩, ?_, ?_, ?_⟩
  .grind
  .simp[q2,r3]
  grind [kO,GV]
theorem yk{b':Blk}:∀{ws:List (Nat×Blk)},(∀p∈ws,p.1≠T)->updH (hwsH (updH h T b) ws) T b'=updH (hwsH h ws) T b':=by
 intro ws
 induction ws generalizing h with
 |nil=>
  intro _;funext i;simp_all [hwsH,updH]
 |cons p ws ih=>
  intro hi;obtain⟨j,c⟩:=p;have hj:j≠T:=hi (j,c) (by simp);simp only[hwsH];have e:(λi=>if i=j then c else updH h T b i)=updH (λi=>if i=j then c else h i) T b:=by
   grind [updH]
  grind
theorem qG{T:Nat}(hT:A T){cs:List DC}:∀{vs:List AV} {h0:Nat->Blk} {S:St} {ι:Nat->Loc} {rs:List (Option (List PV))} {xs:List DC} {rs':List (Option (List PV))} {ws:List (Nat×Blk)} {rd:List Nat} {vals:List Value},
  Rel w0 nA nt M G ι0 A w S ι a->S.h T=.deep mT cs rs->RepAL w (Held S.h ι) G ι vs vals->(∀i,AV.hasL vs i=true->A i)->(∀i∈rd,S.h i=h0 i)->OX mT h0 T vs rs xs rs' ws rd->
  ∃ι',Moved mT w0 nA nt M G ι0 A w S ι a T cs rs rs' ws ι'/\xs.length=vs.length/\(∀p∈ws,p.1≠T)/\
   ∀(i:Nat) (x:DC) (u:Value),xs[i]? =some x->vals[i]? =some u->u.oneCell'=true/\u.cells= #[u]/\dcRep w (Held (updH (hwsH S.h ws) T (.deep mT cs rs')) ι') G (ι' T) rs' x u
 |[],h0,S,ι,rs,xs,rs',ws,rd,vals,h,hb,_,_,_,hm=>by
  obtain⟨rfl,rfl,rfl,rfl⟩:=hm;have e:updH (hwsH S.h []) T (.deep mT cs rs')=S.h:=ve hb;exact⟨ι,⟨by rw[e];exact h,by grind,by grind,λ_=>LocEq.refl _⟩,rfl,by simp,λi x u hx=>by simp at hx⟩
 |v::vs,h0,S,ι,rs,xs,rs',ws,rd,vals,h,hb,hv,hn,hag,hm=>by
  obtain⟨x,rs1,ws1,rd1,xs2,ws2,rd2,m1,m2,q1,q2,rfl,rfl,rfl⟩:=hm;simp only[RepAL]at hv;obtain⟨u,us,rfl,hu,hus⟩:=hv;have mS:xh S.h mT T v rs (λa b c d=>a=x/\b=rs1/\c=ws1/\d=rd1):=by
   grind [NI]
  obtain⟨x',r',w',d',ι1,⟨rfl,rfl,rfl,rfl⟩,mv,o1,o2,o3⟩:=Ic h hT hb hu (λi hi=>hn i (by simp[AV.hasL,hi])) mS;have wT:∀p∈w',p.1≠T:=λp hp e=>q2 (e▸q1 p hp);have hb1:(updH (hwsH S.h w') T (.deep mT cs r')) T=.deep mT cs r':=by simp[updH]
  have hus1:RepAL w (Held (updH (hwsH S.h w') T (.deep mT cs r')) ι1) G ι1 vs us:=RepAL.tr (λB o v hF hv=>⟨hv,λq=>hF (mv.held B q)⟩) (λ_ _ _ h=>h) _ _ (λi _=>mv.loc i) hus;have hag1:∀i∈rd2,updH (hwsH S.h w') T (.deep mT cs r') i=hwsH h0 w' i:=λi hi=>by
   have hiT:i≠T:=by
    rintro rfl;obtain⟨_,_,_,_,_,r1,_,r3,_⟩:=fix_of m2;exact r3 hi
   grind [updH,GV]
  obtain⟨ι2,mv2,l2,wT2,v2⟩:=qG hT (S:={S with h:=updH (hwsH S.h w') T (.deep mT cs r')}) mv.rel hb1 hus1 (λi hi=>hn i (by simp[AV.hasL,hi])) hag1 m2;have eh:updH (hwsH (updH (hwsH S.h w') T (.deep mT cs r')) ws2) T (.deep mT cs rs')=updH (hwsH S.h (w'++ws2)) T (.deep mT cs rs'):=by
   rw[yk wT2,<-bO]
  refine⟨ι2,⟨?_,λy z hy=> ?_,λB hB=> ?_,λi=>(mv.loc i).trans (mv2.loc i)⟩,by simp[l2],λp hp=> ?_,λi y z hy hz=> ?_⟩
  .have:=mv2.rel;grind
  .have:=mv2.old y z (mv.old y z hy);rw[eh]at this;exact this
  .rw[<-eh]at hB;exact mv.held B (mv2.held B hB)
  .grind
  .cases i with
   |zero=>
    simp only[zF3,zF2]at hy hz;subst hy hz;refine⟨o1,o2, ?_⟩;have:=mv2.old _ _ o3;grind
   |succ i=>
    grind
 where
 fix_of {mt:Bool} {h:Nat->Blk} {T:Nat}:∀{vs:List AV} {rs:List (Option (List PV))} {xs:List DC} {rs':List (Option (List PV))} {ws:List (Nat×Blk)} {rd:List Nat},OX mt h T vs rs xs rs' ws rd->∃(_ _ _ _ _:Nat),True/\(∀p∈ws,p.1∈rd)/\T∉rd/\True
  |[],_,_,_,_,_,hm=>by obtain⟨rfl,rfl,rfl,rfl⟩:=hm;simp_all
  |v::vs,_,_,_,_,_,hm=>by
   obtain⟨x,rs1,ws1,rd1,xs2,ws2,rd2,m1,m2,q1,q2,rfl,rfl,rfl⟩:=hm;obtain⟨_,_,_,_,_,_,r1,r2,_⟩:=fix_of m2;refine⟨0,0,0,0,0,trivial,λp hp=> ?_,by simp[q2,r2],trivial⟩;grind
theorem okB.outer{F':Nat->Prop}{O:Bool->Nat->Prop}{l l':Loc}(ok1:okB w F G O (.deep m cs rs) l)(st:Stays w w' F F')(e1:l'.n=l.n)(e2:l'.inn=l.inn)
  (keep:∀B,B<w.heap.size->B≠l'.B->w'.heap[B]? =w.heap[B]?) (hB:∀r c,rs[r]? =some (some c)->(l.sub r).cap≠0->(l.sub r).B≠l'.B)
  (hout:xs.length<=l'.cap/\l'.cap<=maxLen/\(l'.cap=0\/(RowAt w' l'/\O m l'.B/\∀(j:Nat) (x:DC),xs[j]? =some x->∃v,w'.cell? ⟨l'.B,l'.off+j,none⟩=some v/\v.oneCell'=true/\dcRep w' F' G l' rs x v))):
  okB w' F' G O (.deep m xs rs) l':=by
 have es:∀r,l'.sub r=l.sub r:=λr=>by simp only[Loc.sub,e2]
 obtain⟨n1,_,r1,d1,_⟩:=ok1;refine⟨by rw[e1];exact n1,hout,λr c hr=> ?_,λr c r' c' hr hr' hne z z'=> ?_,λr c hr _ z=> ?_⟩
 .rw[es]
  have hlt:(l.sub r).cap≠0->(l.sub r).B<w.heap.size:=λz=>by
   rcases(r1 r c hr).2.2 with q|⟨q,_⟩
   .exact absurd q z
   .exact q.lt
  grind [rowOk.tr]
 .grind
 grind
theorem dcRep.loc'{l l':Loc}{x:DC}(hs:x.noSelf=true)(e3:l'.inn=l.inn)(h:dcRep w F G l rs x v):dcRep w F G l' rs x v:=by
 cases x with
 |v x=>exact h
 |row r=>refine⟨h.1,λc hc=> ?_⟩;have:=h.2 c hc;grind [Loc.sub]
 |self o=>simp[DC.noSelf]at hs
theorem Hw{v:AV}(hv:RepA w F G ι v val):∃vals:List Value,RepAL w F G ι (i7 v) vals/\((∀u∈vals,u.cells= #[u])->val.cells=⟨vals⟩):=by
 have single:i7 v=[v]->∃vals:List Value,RepAL w F G ι (i7 v) vals/\((∀u∈vals,u.cells= #[u])->val.cells=⟨vals⟩):=λe=>by
  rw[e];exact⟨[val],by grind [RepAL],λh=>h val (by simp)⟩
 cases v with
 |p x=>
  cases x with
  |agg xs=>
   simp only[RepA,RepP]at hv;obtain⟨cs,rfl,hl⟩:=hv;exact⟨cs,by grind [i7,RepAL_p],λ_=>rfl⟩
  |_=>exact single rfl
 |agg vs=>
  simp only[RepA]at hv;obtain⟨cs,rfl,hl⟩:=hv;exact⟨cs,hl,λ_=>rfl⟩
 |_=>exact single rfl
theorem Dw{v:AV}(hn:∀i,v.has i=true->A i):∀i,AV.hasL (i7 v) i=true->A i:=by
 have single:i7 v=[v]->∀i,AV.hasL (i7 v) i=true->A i:=λe i hi=>by
  grind [AV.hasL]
 cases v with
 |p x=>
  cases x with
  |agg xs=>
   intro i hi;simp only[i7]at hi;have:∀xs:List PV,AV.hasL (xs.map .p) i=false:=λxs=>by
    induction xs with
    |nil=>rfl
    |cons x xs ih=>grind [AV.hasL,AV.has]
   grind
  |_=>exact single rfl
 |agg vs=>grind [AV.has,i7]
 |_=>exact single rfl
theorem vj(h:Rel w0 nA nt M G ι0 A w S ι a)(hid:A id)(hb:S.h id=.deep mT cs rs){v:AV}
  (hv:RepA w (Held S.h ι) G ι v val) (hn:∀i,v.has i=true->A i)
  (hK:kO S.h mT id (i7 v) rs λxs rs ws rd=>xs.length=n/\off+n<=cs.length/\K ⟨.p .any,ws++[(id,.deep mT (cs.take off++xs++cs.drop (off+n)) rs)],id::rd⟩):
  val.cells.size=n/\∃w' h' ι' rd ws,K ⟨.p .any,ws,rd⟩/\h'=hwsH S.h ws/\(storeCells ⟨(ι id).B,(ι id).off+off,none⟩ val.cells.toList).run P w=.ok () w'/\Rel w0 nA nt M G ι0 (gh A k) w' {S with h:=h'} ι' a:=by
 obtain⟨vals,hvals,hcells⟩:=Hw hv;obtain⟨xs,rs',ws,rd,⟨hlen,hle,hk⟩,mr,_,_,_⟩:=ng hK;obtain⟨ι1,mv,hxl,hwT,hx⟩:=qG hid h hb hvals (Dw hn) (λ_ _=>rfl) mr;have hvl:vals.length=n:=by grind [d4]
 have e1:val.cells=⟨vals⟩:=hcells λu hu=>by
  obtain⟨i,hi⟩:=List.getElem?_of_mem hu;have hlt:=(zB4.1 hi).1;exact(hx i _ u (zA1 (show i<xs.length by omega)) hi).2.1
 have one:∀u∈vals,u.oneCell'=true:=λu hu=>by
  obtain⟨i,hi⟩:=List.getElem?_of_mem hu;have hlt:=(zB4.1 hi).1;exact(hx i _ u (zA1 (show i<xs.length by omega)) hi).1
 refine⟨by grind, ?_⟩;rw[e1];simp only;have h1:=mv.rel;have hb1:(updH (hwsH S.h ws) id (.deep mT cs rs')) id=.deep mT cs rs':=by simp[updH]
 have ok1:=h1.heap.deep hb1;obtain⟨lB,lo,lc,_⟩:=mv.loc id;have efin:hwsH S.h (ws++[(id,.deep mT (cs.take off++xs++cs.drop (off+n)) rs')])=updH (hwsH S.h ws) id (.deep mT (cs.take off++xs++cs.drop (off+n)) rs'):=by
  rw[bO];rfl
 have eupd:updH (updH (updH (hwsH S.h ws) id (.deep mT cs rs')) id .dead) id (.deep mT (cs.take off++xs++cs.drop (off+n)) rs')=updH (hwsH S.h ws) id (.deep mT (cs.take off++xs++cs.drop (off+n)) rs'):=by
  grind [updH]
 have eι:aE ι1 id (ι1 id)=ι1:=kb;by_cases hn0:n=0
 .subst hn0
  have hv0:vals=[]:=zA4 hvl;have hx0:xs=[]:=zA4 hlen;subst hv0 hx0;refine⟨w,_,ι1,_,_,hk,rfl,rfl, ?_⟩;rw[efin];simp only[zC0,Nat.add_zero,zF0];exact h1.mono λi hi=>.inl hi
 .obtain⟨_,⟨g1,g2,g3⟩,_⟩:=ok1
  have hcap1:(ι1 id).cap≠0:=by omega
  rcases g3 with g3|⟨⟨cells,E,lo',hi',hcell,hroom,hfr⟩,gx,gcells⟩
  .exact absurd g3 hcap1
  .rw[<-lB,<-lo]
   have hst:=bY P (ι1 id).B ((ι1 id).off+off) E lo' hi' vals 0 cells w hcell (hfr.imp_right And.right) (by omega) one;simp only[Nat.add_zero,hvl]at hst;have hwr:Wrote w (w.setRow (ι1 id).B (cells.toList.take ((ι1 id).off+off)++vals++cells.toList.drop ((ι1 id).off+off+n)).toArray) (ι1 id).B _:=Wrote.setRow hcell (by simp;omega);have hb2':=setRow_heap w (ι1 id).B cells (cells.toList.take ((ι1 id).off+off)++vals++cells.toList.drop ((ι1 id).off+off+n)).toArray E (lo',hi') hcell;have hBk:w0.heap.size<=(ι1 id).B\/M (ι1 id).B:=by
    rcases gx with⟨g,_⟩|⟨_,g⟩
    .exact .inl g
    .exact .inr g
   have W:=h1.heap.writeB (w':=w.setRow (ι1 id).B (cells.toList.take ((ι1 id).off+off)++vals++cells.toList.drop ((ι1 id).off+off+n)).toArray) (id:=id) (k:=id) (.inl rfl) (b:=.deep mT (cs.take off++xs++cs.drop (off+n)) rs') (l:=ι1 id)
    (λB hB=>hwr.other B λe=>hB (by simp only[hb1];exact .inl ⟨hcap1,e.symm⟩)) (λB ho=>by simp only[hb1];exact ho)
    (λst=>(h1.heap.deep hb1).outer st rfl rfl (λB _ hB=>hwr.other B hB) (λr c hr z=>(h1.heap.deep hb1).2.2.2.2 r c hr hcap1 z) ⟨by simp;omega,g2,.inr ⟨⟨_,E,lo',hi',hb2',by simp;omega,by grind⟩,gx,λi x hi=>by
     have htk:(cells.toList.take ((ι1 id).off+off)).length=(ι1 id).off+off:=by simp;omega
     have htc:(cs.take off).length=off:=by simp;omega
     have cellAt:∀j,(w.setRow (ι1 id).B (cells.toList.take ((ι1 id).off+off)++vals++cells.toList.drop ((ι1 id).off+off+n)).toArray).cell? ⟨(ι1 id).B,j,none⟩=if j<(ι1 id).off+off then cells[j]? else if j<(ι1 id).off+off+n then vals[j-((ι1 id).off+off)]? else cells[j]? :=by
      intro j;rw[cell?_eq,hb2'];simp only;rw[zH8,zA7];by_cases q1:j<(ι1 id).off+off
      .grind
      .rw[zA8 q1,zD1 (by omega),htk]
       by_cases q2:j<(ι1 id).off+off+n
       .grind
       .rw[zA8 q2,zD1 (by omega),zG0]
        rw[show(ι1 id).off+off+n+(j-((ι1 id).off+off)-vals.length)=j from by omega];simp
     have oldC:∀(j:Nat) (y:DC),cs[j]? =some y->∃u,cells[(ι1 id).off+j]? =some u/\u.oneCell'=true/\dcRep w (Held (updH (hwsH S.h ws) id (.deep mT cs rs')) ι1) G (ι1 id) rs' y u:=by
      grind [cell?_eq]
     rw[cellAt];rw[zA7,zE5]at hi;split at hi
     .rename_i hlt
      rw[zH2]at hi;split at hi
      .obtain⟨u,u1,u2,u3⟩:=oldC i x hi
       exact⟨u,by grind,u2,u3.tr st λ_ _ _ h=>h⟩
      .cases hi
     .rename_i hge
      rw[htc]at hi hge;rw[zE5]at hi;split at hi
      .rename_i hlt
       have hlt2:i-off<vals.length:=by omega
       obtain⟨u1,_,u3⟩:=hx _ x _ hi (zA1 hlt2);refine⟨vals[i-off], ?_,u1,u3.tr st λ_ _ _ h=>h⟩;grind
      .rename_i hge2
       rw[zG0]at hi;obtain⟨u,u1,u2,u3⟩:=oldC _ x hi;refine⟨u, ?_,u2,u3.tr st λ_ _ _ h=>h⟩;grind⟩⟩)
   obtain⟨ok,hh,st⟩:=W;simp only[eupd,eι]at ok hh st;refine⟨_,_,ι1,_,_,hk,rfl,hst, ?_⟩;rw[efin];exact h1.stepK (A':=gh A k) (λi hi=>.inl hi) (hwr.keep hBk h1.keep) ok st (λi hi=>LocEq.refl _) (λi hi=>by
    have hne2:i≠id:=λe=>hi (.inl (e▸hid));simp only[updH,hne2,zE3];have:=h1.alloc i λhA=>hi (.inl hA);grind [updH])
theorem BW{mt:Bool}{h:Nat->Blk}{id:Nat}{rs:List (Option (List PV))}:∀{n:Nat} {F:List DC->List (Option (List PV))->List (Nat×Blk)->List Nat->Prop},F (List.replicate n (.v (.sl .own []))) rs [] []->kO h mt id (List.replicate n (.p (.sl .own []))) rs F
 |0,F,hf=>hf
 |n+1,F,hf=>by
  rw[List.replicate_succ,kO];refine .inr ⟨rfl,BW ?_⟩;grind
theorem xd{F:Nat->Prop}:∀{n:Nat},RepAL w F G ι (List.replicate n (.p (.sl .own []))) (List.replicate n (.slice none 0 0))
 |0=>by simp[RepAL]
 |n+1=>by
  rw[List.replicate_succ,List.replicate_succ,RepAL];refine⟨_,_,rfl, ?_,xd⟩;grind [RepA,RepP]
theorem yl{i:Nat}:∀{n:Nat},AV.hasL (List.replicate n (.p (.sl .own []))) i=false
 |0=>rfl
 |n+1=>by rw[List.replicate_succ,AV.hasL,yl];rfl
end
section
variable {P:Program}{sg:FuncId->List Bool}{w0:World}{nA nt:Nat}{M G:Nat->Prop}{ι0:Nat->Loc}{A:Nat->Prop}{w w':World}{S:St}{ι:Nat->Loc}{a:Act}
theorem sy{v:AV}{K:List PV->List (Nat×Blk)->List Nat->Prop}(hK:fm S.h v K)(h:Rel w0 nA nt M G ι0 A w S ι a)(hv:RepA w (Held S.h ι) G ι v val):
  ∃xs ws rd,K xs ws rd/\FrzL S.h ws/\(∀p∈ws,p.1∈rd)/\val.cells.size=xs.length/\(∀u∈val.cells.toList,u.oneCell'=true)/\
   ∀(j:Nat) (x:PV),xs[j]? =some x->∃u,val.cells[j]? =some u/\u.oneCell'=true/\RepP w (Held (hwsH S.h ws) ι) G x u:=by
 have single:∀v:AV,Ek S.h v (λx ws rd=>K [x] ws rd)->RepA w (Held S.h ι) G ι v val->∃xs ws rd,K xs ws rd/\FrzL S.h ws/\(∀p∈ws,p.1∈rd)/\val.cells.size=xs.length/\(∀u∈val.cells.toList,u.oneCell'=true)/\
   ∀(j:Nat) (x:PV),xs[j]? =some x->∃u,val.cells[j]? =some u/\u.oneCell'=true/\RepP w (Held (hwsH S.h ws) ι) G x u:=by
  intro v hp hv;obtain⟨x,ws,rd,hk,hf,hx,hw,hr⟩:=s6 hp;have hrep:=hr h.heap hf.frz (sm hf) hv;have h1:=bN hx hrep;have hc:val.cells= #[val]:=by cases val<;>first|rfl|simp[Value.oneCell']at h1
  grind
 unfold fm at hK;split at hK
 .rename_i xs
  simp only[RepA,RepP]at hv;obtain⟨cs,rfl,hl⟩:=hv;obtain⟨hall,hk⟩:=hK;have hall':∀x∈xs,x.cell.cellOk=true:=by simpa using hall
  have e1:(Value.agg ⟨cs⟩).cells=⟨cs⟩:=rfl;have get:∀(j:Nat) (u:Value),cs[j]? =some u->u.oneCell'=true:=by
   intro j u hu;have hj:j<xs.length:=by grind [oV]
   obtain⟨u',hu',hr⟩:=lm hl j _ (zA1 hj);rw[hu]at hu';cases hu'
   exact bN (hall' _ (List.getElem_mem hj)) (go hr)
  refine⟨_,[],[],hk,λp hp=>by simp at hp,λp hp=>by simp at hp,by grind [oV],λu hu=> ?_,λj x hj=> ?_⟩
  .grind [List.mem_iff_getElem?]
  .simp only[zA5,zG2]at hj
   obtain⟨y,hy,rfl⟩:=hj;obtain⟨u,hu,hr⟩:=lm hl j y hy;exact⟨u,by rw[e1];simpa using hu,get j u hu,go hr⟩
 .rename_i vs
  simp only[RepA]at hv;obtain⟨cs,rfl,hl⟩:=hv;obtain⟨xs,ws,rd,hk,hf,hlen,hok,hw,hr⟩:=qC hK;have e1:(Value.agg ⟨cs⟩).cells=⟨cs⟩:=rfl;have hcl:=d4 hl;have get:∀(j:Nat) (x:PV),xs[j]? =some x->∃u,cs[j]? =some u/\u.oneCell'=true/\RepP w (Held (hwsH S.h ws) ι) G x u:=by
   intro j x hj;have hj':j<vs.length:=by grind
   obtain⟨u,hu,hru⟩:=ks hl j _ (zA1 hj');have:=hr h.heap hf.frz (sm hf) j _ u x (zA1 hj') hj hru;exact⟨u,hu,bN (hok x (zF9 hj)) this,this⟩
  refine⟨xs,ws,rd,hk,hf,hw,by grind,λu hu=> ?_,λj x hj=> ?_⟩
  .rw[e1]at hu
   obtain⟨j,hj⟩:=List.mem_iff_getElem?.1 hu;have hj':j<xs.length:=by grind
   obtain⟨u',hu',h1,_⟩:=get j _ (zA1 hj');grind
  grind
 .exact single _ hK hv
theorem KF{b:Bool}(h:pU P t=some (n,b)):∃i,P.info? t=some i/\i.size=n:=by
 cases b
 .grind [uD]
 grind [y6]
theorem qT:∀{ws:List (Nat×Blk)} {i:Nat},(∀p∈ws,p.1≠i)->hwsH h ws i=h i:=by
 intro ws
 induction ws generalizing h with
 |nil=>intro i _;rfl
 |cons p ws ih=>
  intro i hi;obtain⟨j,b⟩:=p;simp only[hwsH];rw[ih λq hq=>hi q (by simp[hq])];have:=hi (j,b) (by simp);simp[Ne.symm this]
theorem HF(h:Rel w0 nA nt M G ι0 A w S ι a)(hid:A id)(hb:S.h id=.deep m cs rs)(hr:rs[r]? =some (some c))(ho:off<c.length)
  {x:PV} {val:Value} (h1:val.oneCell'=true) (hx:RepP w (Held S.h ι) G x val):
  ∃w1,(storeCells ⟨((ι id).sub r).B,((ι id).sub r).off+off,none⟩ [val]).run P w=.ok () w1/\
   Rel w0 nA nt M G ι0 (gh A k) w1 {S with h:=updH S.h id (.deep m cs (rs.set r (some (c.set off x))))} ι a:=by
 have okd:=h.heap.deep hb;obtain⟨hn,⟨q1,q2,q3⟩,q4,q5,q6⟩:=okd;obtain⟨r1,r2,r3⟩:=q4 r c hr;have hcap:((ι id).sub r).cap≠0:=by omega
 rcases r3 with r3|⟨⟨cells,E,lo,hi',hcell,hroom,hfr⟩,hrepc,gx⟩
 .exact absurd r3 hcap
 have hrl:r<rs.length:=(zB4.1 hr).1;have hst:=bY P ((ι id).sub r).B (((ι id).sub r).off+off) E lo hi' [val] 0 cells w hcell (hfr.imp_right And.right) (by simp;omega) (by simpa using h1);simp only[Nat.add_zero,zC5]at hst;have hwr:Wrote w (w.setRow ((ι id).sub r).B (cells.toList.take (((ι id).sub r).off+off)++[val]++cells.toList.drop (((ι id).sub r).off+off+1)).toArray) ((ι id).sub r).B _:=Wrote.setRow hcell (by simp;omega);refine⟨_,hst, ?_⟩;have hBk:w0.heap.size<=((ι id).sub r).B\/M ((ι id).sub r).B:=by
  rcases gx with⟨g,_⟩|⟨_,g⟩
  .exact .inl g
  .exact .inr g
 have hown:owns (S.h id) (ι id) ((ι id).sub r).B:=by rw[hb];exact .inr ⟨r,c,hr,hcap,rfl⟩
 rw[aY]at hrepc;have rows:∀{q:Nat} {c':List PV},(rs.set r (some (c.set off x)))[q]? =some (some c')->(q=r/\c'=c.set off x)\/(q≠r/\rs[q]? =some (some c')):=by
  grind
 have old:∀{q:Nat} {c':List PV},(rs.set r (some (c.set off x)))[q]? =some (some c')->∃c0,rs[q]? =some (some c0)/\c'.length=c0.length:=by
  grind
 obtain⟨cs1,E1,fr1,hb1,hb2,hsz⟩:=hwr.at_;rw[hcell]at hb1;cases hb1
 have W:=h.heap.writeB (w':=w.setRow ((ι id).sub r).B (cells.toList.take (((ι id).sub r).off+off)++[val]++cells.toList.drop (((ι id).sub r).off+off+1)).toArray) (id:=id) (k:=id) (.inl rfl) (b:=.deep m cs (rs.set r (some (c.set off x)))) (l:=ι id)
  (λB hB=>hwr.other B λe=>hB (e▸hown))
  (λB hB=>by
   rw[hb];rcases hB with hB|⟨q,c',hq,z,e⟩
   .exact .inl hB
   .obtain⟨c0,h0,_⟩:=old hq
    exact .inr ⟨q,c0,h0,z,e⟩)
  (λst=>by
   refine⟨by grind,⟨q1,q2, ?_⟩,λq c' hq=> ?_,λq c' q' c'' hq hq' hne z z'=> ?_,λq c' hq z z'=> ?_⟩
   .by_cases h0:(ι id).cap=0
    .exact .inl h0
    .right
     rcases q3 with q3|⟨p1,p2,p3⟩
     .exact absurd q3 h0
     .have hne:(ι id).B≠((ι id).sub r).B:=λe=>q6 r c hr h0 hcap e.symm
      refine⟨p1.same (hwr.other _ hne),p2,λj y hj=> ?_⟩;obtain⟨v,v1,v2,v3⟩:=p3 j y hj;refine⟨v,by rw[cell?_same (hwr.other _ hne)];exact v1,v2, ?_⟩;cases y with
      |v y=>exact RepP.tr st (λ_ _ _ h=>h) _ _ v3
      |row q=>
       obtain⟨t1,t2⟩:=v3;refine⟨by grind,λc' hc'=> ?_⟩;grind
      |self o=>exact v3
   .rcases rows hq with⟨rfl,rfl⟩|⟨hne,hq⟩
    .refine⟨by grind,r2,.inr ⟨⟨_,E,lo,hi',hb2,by rw[hsz];exact hroom,by rw[hsz];exact hfr⟩, ?_,gx⟩⟩
     rw[aY];intro j y hj;rw[List.getElem?_set]at hj;by_cases e:off=j
     .subst e
      rw[zB0 rfl,zB0 ho]at hj;cases hj
      refine⟨val, ?_,h1,RepP.tr st (λ_ _ _ h=>h) _ _ hx⟩;rw[cell?_eq,hb2];grind
     .rw[zA8 e]at hj
      obtain⟨v,hv1,hv2,hv3⟩:=hrepc j y hj;refine⟨v, ?_,hv2,RepP.tr st (λ_ _ _ h=>h) _ _ hv3⟩;rw[cell?_eq,hcell]at hv1;rw[cell?_eq,hb2];have hv1:cells[((ι id).sub q).off+j]? =some v:=hv1;show(cells.toList.take (((ι id).sub q).off+off)++[val]++cells.toList.drop (((ι id).sub q).off+off+1)).toArray[((ι id).sub q).off+j]? =some v;rw[zH8];have hlt:((ι id).sub q).off+j<cells.size:=(zC7.1 hv1).1;have hv1':cells.toList[((ι id).sub q).off+j]? =some v:=by simpa using hv1
      by_cases e2:j<off
      .grind
      .rw[zD1 (by simp;omega)]
       rw[zG0];rw[<-hv1'];congr 1;simp;omega
    .by_cases h0:((ι id).sub q).cap=0
     .obtain⟨g1,g2,_⟩:=q4 q c' hq
      exact⟨g1,g2,.inl h0⟩
     .have hne2:((ι id).sub q).B≠((ι id).sub r).B:=q5 q c' r c hq hr hne h0 hcap
      exact rowOk.tr st (λ_ _ _ h=>h) (λ_=>hwr.other _ hne2) (λ_ h=>h) (q4 q c' hq)
   .grind
   grind)
 obtain⟨ok,_,st⟩:=W;have eι:aE ι id (ι id)=ι:=kb;have eh:updH (updH S.h id .dead) id (.deep m cs (rs.set r (some (c.set off x))))=updH S.h id (.deep m cs (rs.set r (some (c.set off x)))):=by
  grind [updH]
 rw[eι,eh]at ok st;exact h.stepK (A':=gh A k) (λi hi=>.inl hi) (hwr.keep hBk h.keep) ok st (λi _=>LocEq.refl _) (λi hi=>by
  have hne2:i≠id:=λe=>hi (.inl (e▸hid));simp only[updH,hne2,zE3];exact h.alloc i λhA=>hi (.inl hA))
theorem Fh(h:Rel w0 nA nt M G ι0 A w S ι a)(hd:∀d,o.dst=some d->d<nt)
  (ho:o.op=.store t x y) (hK:lR P t S.h (Gl.BH S x) (Gl.BH S y) K):Does P w0 nA nt M G ι0 A k o w S a K:=by
 have hx:=h.opd x;have nx:=h.opd_named x;unfold lR at hK;split at hK
 .rename_i n b ht
  obtain⟨inf,hinf,hsz⟩:=KF ht;split at hK
  .rename_i id off e
   rw[e]at hx nx;simp only[RepA]at hx;have hid:A id:=nx id (by simp[AV.has]);split at hK
   .rename_i m c hblk
    obtain⟨xs,ws,rd,⟨hlen,hle,hnin,hk⟩,hf,hwrd,hcells,hone,hrep⟩:=sy hK h (h.opd y);have h1:=h.frz hf.frz;have hblk1:hwsH S.h ws id=.live m c:=by grind [qT]
    have hvl:(a.eval y).cells.toList.length=n:=by simp[hcells,hlen]
    have run:∀{w1},(storeCells ⟨(ι id).B,(ι id).off+off,none⟩ (a.eval y).cells.toList).run P w=.ok () w1->(execOp a.eval o).run P w=.ok .skip w1:=by
     simp_all [execOp,Instr.storeAt,Instr.sureAddr,storeVar,sizeOf,typeInfo]
    by_cases hn0:n=0
    ·
     subst hn0;have hnil:(a.eval y).cells.toList=[]:=zA4 hvl;have hxs:xs=[]:=zA4 hlen;intro Kc Qc next
     refine nW (run (w1:=w) (by rw[hnil];rfl)) (next _ _ _ ι hk ?_);rw[bV];have e1:hwsH S.h (ws++[(id,.live m (c.take off++xs++c.drop (off+0)))])=hwsH S.h ws:=by
      rw[bO,fq,hxs];grind [zF0,updH]
     rw[e1];exact(h1.put o.dst hd (v:=.p .any) (by simp only[RepA,RepP]) (by simp[AV.has])).mono λi hi=>.inl hi
    .have hc1:c≠[]:=by grind
     obtain⟨g1,g2,g3⟩:=h1.heap.live id m c hblk1;have hcap1:(ι id).cap≠0:=by omega
     rcases g3 with g3|⟨⟨cs,E,lo,hi',hcell,hroom,hfr⟩,hrepc,gx⟩
     .exact absurd g3 hcap1
     .have hst:=bY P (ι id).B ((ι id).off+off) E lo hi' (a.eval y).cells.toList 0 cs w hcell (hfr.imp_right And.right) (by rw[hvl];omega) hone
      simp only[Nat.add_zero,hvl]at hst;have hwr:Wrote w (w.setRow (ι id).B (cs.toList.take ((ι id).off+off)++(a.eval y).cells.toList++cs.toList.drop ((ι id).off+off+n)).toArray) (ι id).B _:=Wrote.setRow hcell (by grind);have hBk:w0.heap.size<=(ι id).B\/M (ι id).B:=by
       grind
      rw[aY]at hrepc;have W:=h1.heap.write (k:=id) (c':=c.take off++xs++c.drop (off+n)) hblk1 (.inl rfl) hcap1 hwr (ι id).off (ι id).cap (ι id).n (ι id).inn (zB1 _) rfl (by simp;omega) (by
       intro j y' hj;have htk:(cs.toList.take ((ι id).off+off)).length=(ι id).off+off:=by simp;omega
       have htc:(c.take off).length=off:=by simp;omega
       rw[zH8];rw[zA7,zE5]at hj;rw[zA7,zE5];split at hj
       .grind [cell?_eq]
       .rename_i hge
        rw[htc]at hj hge;rw[zA8 (by omega),htk,show(ι id).off+j-((ι id).off+off)=j-off from by omega];grind [cell?_eq])
      obtain⟨ok,hh,st⟩:=W;have eι:aE ι id ⟨(ι id).B,(ι id).off,(ι id).cap,(ι id).n,(ι id).inn⟩=ι:=kb;have eh:updH (updH (hwsH S.h ws) id .dead) id (.live m (c.take off++xs++c.drop (off+n)))=hwsH S.h (ws++[(id,.live m (c.take off++xs++c.drop (off+n)))]):=by
       rw[bO,fq];grind [updH]
      rw[eι,eh]at ok st;have h2:=h1.stepK (A':=gh A k) (λi hi=>.inl hi) (hwr.keep hBk h1.keep) ok st (λi hi=>LocEq.refl _) (λi hi=>by
       have hne2:i≠id:=λe=>hi (.inl (e▸hid));rw[bO,fq];simp only[updH,hne2,zE3];exact h1.alloc i λhA=>hi (.inl hA))
      intro Kc Qc next
      refine nW (run hst) (next _ _ _ ι hk ?_);rw[bV];exact h2.put o.dst hd (v:=.p .any) (by simp only[RepA,RepP]) (by simp[AV.has])
   .rename_i cs rs hblk
    obtain⟨hvl,w1,h1,ι1,rd,ws,hk,rfl,hst,hrel⟩:=vj (P:=P) (k:=k) (K:=K) h hid hblk (h.opd y) (h.opd_named y) hK;have run:(execOp a.eval o).run P w=.ok .skip w1:=by
     simp_all [execOp,Instr.storeAt,Instr.sureAddr,storeVar,sizeOf,typeInfo]
    intro Kc Qc next
    refine nW run (next _ _ _ ι1 hk ?_);rw[bV];exact hrel.put o.dst hd (v:=.p .any) (by simp only[RepA,RepP]) (by simp[AV.has])
   .exact hK.elim
  .rename_i id r off e
   rw[e]at hx nx;simp only[RepA]at hx;have hid:A id:=nx id (by simp[AV.has]);obtain⟨hn1,hK⟩:=hK;unfold HP at hK;split at hK
   .rename_i x ex
    obtain⟨hxo,hK⟩:=hK;split at hK
    .rename_i m cs rs hblk
     split at hK
     .rename_i c hrow
      obtain⟨hoff,hk⟩:=hK;have hv:=h.opd y;rw[ex]at hv;have hrep:=go (show RepP w (Held S.h ι) G x (a.eval y)from hv);have h1:=bN hxo hrep;obtain⟨w1,hst,hrel⟩:=HF (P:=P) (k:=k) h hid hblk hrow hoff h1 hrep;have hc:∀val:Value,val.oneCell'=true->val.cells= #[val]:=λval h1=>by cases val<;>first|rfl|simp[Value.oneCell']at h1
      have hc1:=hc _ h1;have run:(execOp a.eval o).run P w=.ok .skip w1:=by
       simp_all [execOp,Instr.storeAt,Instr.sureAddr,storeVar,sizeOf,typeInfo]
      intro Kc Qc next
      refine nW run (next _ _ _ ι hk ?_);rw[bV];exact hrel.put o.dst hd (v:=.p .any) (by simp only[RepA,RepP]) (by simp[AV.has])
     .exact hK.elim
    .exact hK.elim
   .exact hK.elim
  .exact hK.elim
 .exact hK.elim
theorem lJ(v:Value):RepP w F G (bM v).cell v:=go (gj v)
theorem Fq(h:Rel w0 nA nt M G ι0 A w S ι a)(hd:∀d,o.dst=some d->d<nt)(hA:∀x,x<256->¬A (k+x))
  (ho:o.op=.alloc t) (hK:oU P t k K):Does P w0 nA nt M G ι0 A k o w S a K:=by
 unfold oU at hK;split at hK
 .rename_i xs hz
  obtain⟨hne,hbig,hok,hk⟩:=hK;unfold ip at hz;split at hz
  .rename_i inf hinf
   split at hz
   .rename_i z hzz
    simp only[zF2]at hz;subst hz;have hok':∀x∈z.cells.toList,(bM x).cell.cellOk=true:=by
     grind
    have hbig':z.cells.size<=maxLen:=by grind [maxLen]
    refine mK h hd hA (ws:=[]) (λp hp=>by simp at hp) (Pushed.alloc w (.cells z.cells t)) (lo:=0) (hi:=0) (.inl (zB1 _)) false _ z.cells.size hbig' (zB1 _) (by simp) ?_ (v:=.ptr k 0) ?_ (.inr ⟨rfl,rfl⟩) hk
    .grind [bN,lJ]
    simp_all [execOp,Instr.alloc,zeroValue,typeInfo,newVar,newRow]
   .cases hz
  .cases hz
 .exact hK.elim
theorem Oa(h:Rel w0 nA nt M G ι0 A w S ι a)(hd:∀d,o.dst=some d->d<nt)(hA:∀x,x<256->¬A (k+x))
  (ho:o.op=.box t x) (hK:OF S.h k (Gl.BH S x) K):Does P w0 nA nt M G ι0 A k o w S a K:=by
 obtain⟨xs,ws,rd,⟨hne,hbig,hk⟩,hf,hwrd,hcells,hone,hrep⟩:=sy hK h (h.opd x);refine mK h hd hA hf (Pushed.alloc w (.cells (a.eval x).cells t)) (lo:=0) (hi:=0) (.inl (zB1 _)) false xs xs.length (by grind [maxLen]) (by omega) (zB1 _) hrep (v:=.ptr k 0) ?_ (.inr ⟨rfl,rfl⟩) hk;simp_all [execOp,Instr.box,newVar,newRow]
theorem AY(h:ZQ P t=true):∃e,P.underlying t=some (.slice e)/\P.underlying e=some (.int .u8):=by
 grind [ZQ,yh]
theorem Fy(hs:P.underlying src=some (.slice e))(he:P.underlying e=some (.int .u8))(hd:P.underlying dst=some .string)(hn:s.length=n)
  (h:s=[]\/∃B off,ad=some ⟨B,off,none⟩/\RepC w F G B off (s.map λb=>.int .u8 b.toNat)):(convert src dst (.slice ad n cap)).run P w=.ok (.string ⟨s.toArray⟩) w:=by
 subst hn;have none_case:s=[]->ad=none->(convert src dst (.slice ad s.length cap)).run P w=.ok (.string ⟨s.toArray⟩) w:=by
  rintro rfl rfl;show(convert src dst (.slice none 0 cap)).run P w=_;rw[run_convert_bytes_string w src dst e none 0 cap hs he hd];rfl
 rcases h with h0|⟨B,off,rfl,hc⟩
 .cases ad with
  |none=>exact none_case h0 rfl
  |some x=>
   grind [run_convert_bytes_back]
 .obtain⟨cs,hl,hlen,hcells,hone⟩:=iz hc
  refine run_convert_bytes_back w src dst e ⟨B,off,none⟩ cap s hs he hd λj hj=> ?_;have hj':(s.map λb=>PV.int .u8 b.toNat)[j]? =some (.int .u8 s[j].toNat):=by simp[hj]
  grind [lm,RepP,fE]
theorem Ay(h:Rel w0 nA nt M G ι0 A w S ι a)(hd:∀d,o.dst=some d->d<nt)(hA:∀x,x<256->¬A (k+x))
  (ho:o.op=.convert src dst x) (hK:mN P src dst k S.h (Gl.BH S x) K):Does P w0 nA nt M G ι0 A k o w S a K:=by
 have hx:=h.opd x;unfold mN at hK;split at hK
 .rename_i k' n e
  rw[e]at hx;have hx:=fd hx;split at hK
  .rename_i kd hkd
   obtain⟨hs,hr,hk⟩:=hK;obtain⟨d,hsrc⟩:=Option.isSome_iff_exists.1 hs;refine ax h hd (v:=.p (.int kd n)) (val:=.int kd n) ?_ (by simp only[RepA,RepP]) (by simp[AV.has]) hk;simp_all [execOp,convert,zD2,yh,Conv.intToInt,lx]
  .exact hK.elim
 .rename_i s e
  rw[e]at hx;have hx:=lC hx;obtain⟨hsrc,hK⟩:=hK;have hsrc:=jk hsrc;split at hK
  .rename_i hst
   refine ax h hd (v:=.p (.str s)) (val:=.string ⟨s.toArray⟩) ?_ (by simp only[RepA,RepP]) (by simp[AV.has]) (by rw[e]at hK;exact hK);simp_all [execOp,convert,zD2,jk,zI2]
  .obtain⟨_,hu8,hlen,hSB,hk⟩:=hK
   obtain⟨el,hu,hel⟩:=AY hu8;have hgc:=grownCap_ge w s.length 0 el;have hgm:=grownCap_le_maxLen w s.length 0 el (by grind [maxLen,big]);have hsz:(⟨s.toArray⟩:ByteArray).size=s.length:=by simp[ByteArray.size]
   have hrow:(bytesRow ⟨s.toArray⟩ (grownCap w s.length 0 el)).size=grownCap w s.length 0 el:=by
    grind [bytesRow]
   have hrun:(convert src dst (.string ⟨s.toArray⟩)).run P w=.ok (.slice (some ⟨w.heap.size,0,none⟩) s.length (grownCap w s.length 0 el))
     (w.drew.alloc (.cells (bytesRow ⟨s.toArray⟩ (grownCap w s.length 0 el)) el (grownCap w s.length 0 el,grownCap w s.length 0 el+1))):=by
    grind [run_bytes_of_string]
   refine mK h hd hA (ws:=[]) (λp hp=>by simp at hp) (Pushed.drew w (.cells (bytesRow ⟨s.toArray⟩ (grownCap w s.length 0 el)) el (grownCap w s.length 0 el,grownCap w s.length 0 el+1))) (.inr ⟨hSB,by omega⟩) false
    (s.map λb:UInt8=>PV.int .u8 (b.toNat:Int)) (grownCap w s.length 0 el) hgm (by omega) (by simpa using hgc) (λj x hj=> ?_) (v:=.ref k 0 s.length) ?_ (.inl ⟨s.length,rfl,by omega,rfl⟩) hk
   .simp only[zA5,zG2]at hj
    obtain⟨b,hb,rfl⟩:=hj;have hjl:=(zB4.1 hb).1;refine⟨.int .u8 b.toNat, ?_,rfl,gN⟩;grind [bytesRow]
   simp_all [execOp]
 .rename_i hni hns
  obtain⟨hst,hsl,hu8,hK⟩:=hK;obtain⟨el,hu,hel⟩:=AY hu8;have key:∀(s:List UInt8) (ad:Option Addr) (n cap:Nat) (rd:List Nat),a.eval x=.slice ad n cap->s.length=n->(s=[]\/∃B off,ad=some ⟨B,off,none⟩/\RepC w (Held S.h ι) G B off (s.map λb=>.int .u8 b.toNat))->
    K ⟨.p (.str s),[],rd⟩->Does P w0 nA nt M G ι0 A k o w S a K:=λs ad n cap rd hv hn hc hk=>by
   refine ax h hd (v:=.p (.str s)) (val:=.string ⟨s.toArray⟩) ?_ (by simp only[RepA,RepP]) (by simp[AV.has]) hk;have hb:=Fy (P:=P) hu hel (jk hst) hn (cap:=cap) hc;simp_all [execOp]
  unfold oP at hK;split at hK
  .grind [jQ]
  .grind
  .rename_i id off len e
   rw[e]at hx;obtain⟨ad,cap,hv,hl,hcap,hm,hc⟩:=cS hx;have fin:∀c,((∃m,S.h id=.live m c)\/∃m,S.h id=.froz m c)->off+len<=c.length->(∃s:List UInt8,(c.drop off).take len=s.map (λb=>PV.int .u8 b.toNat)/\K ⟨.p (.str s),[],[id]⟩)->Does P w0 nA nt M G ι0 A k o w S a K:=by
    rintro c hb hle ⟨s,hs,hk⟩;have hsl:s.length=len:=by
     have:=zB5 List.length hs;simp at this;omega
    refine key s ad _ cap _ hv hsl ?_ hk;by_cases h0:len=0
    .grind
    .right
     rcases hc with hc|rfl
     .omega
     .refine⟨_,_,rfl, ?_⟩
      rw[<-hs];exact co (bQ (h.heap.cells hb (by grind)) off) len
   grind
  .rename_i id r off len e
   rw[e]at hx;obtain⟨_,ad,cap,hv,hl,hcap,hm,hc⟩:=iQ hx;split at hK
   .rename_i m cs rs hb
    split at hK
    .rename_i c hr
     obtain⟨hle,s,hs,hk⟩:=hK;have hsl:s.length=len:=by
      have:=zB5 List.length hs;simp at this;omega
     refine key s ad _ cap _ hv hsl ?_ hk;by_cases h0:len=0
     .grind
     .right
      rcases hc with hc|rfl
      .omega
      .refine⟨_,_,rfl, ?_⟩
       rw[<-hs];exact co (bQ ((h.heap.deepRow hb hr).2.cells (by grind)).1 off) len
    .exact hK.elim
   .exact hK.elim
  .exact hK.elim
theorem yN{F:Nat->Prop}:∀{xs:List AV} {vs:List Value} {x:AV} {v:Value} (o:Nat),RepAL w F G ι xs vs->RepA w F G ι x v->RepAL w F G ι (xs.set o x) (vs.set o v)
 |[],vs,x,v,o,h,_=>by
  grind [RepAL]
 |y::xs,vs,x,v,o,h,hx=>by
  simp only[RepAL]at h;obtain⟨u,us,rfl,h1,h2⟩:=h;cases o with
  |zero=>grind [RepAL]
  |succ o=>simp only[List.set_cons_succ,RepAL];exact⟨u,_,rfl,h1,yN o h2 hx⟩
theorem CH{i:Nat}:∀{xs:List AV} {x:AV} (o:Nat),AV.hasL (xs.set o x) i=true->AV.hasL xs i=true\/x.has i=true
 |[],x,o,h=>by grind
 |y::xs,x,o,h=>by
  cases o with
  |zero=>
   grind [AV.hasL]
  |succ o=>
   simp only[List.set_cons_succ,AV.hasL,zI8]at h |-
   rcases h with h|h
   .exact .inl (.inl h)
   .rcases CH o h with h|h
    .exact .inl (.inr h)
    .exact .inr h
theorem KH{b:Bool}(h:pU P t=some (n,b)):∃i,P.info? t=some i/\i.size=n:=by
 grind [pU]
theorem tM:∀(fs:List Field) (places:List Nat),(fs.mapM λf=>match pU P f.type with|some (1,_)=>some f.offset|_=>none)=some places->
  fs.mapM (λf=>(P.info? f.type).map λi=>(f.offset,i.size))=some (places.map λo=>(o,1))
 |[],places,h=>by grind
 |f::fs,places,h=>by
  simp only[List.mapM_cons,Option.bind_eq_bind,Option.pure_def,Option.bind_eq_some_iff]at h |-
  obtain⟨o,ho,ps,hps,e⟩:=h;cases e
  split at ho
  .rename_i b hs
   cases ho
   obtain⟨i,hi,hsz⟩:=KH hs;exact⟨_,by rw[hi];simp[hsz];rfl,_,tM fs ps hps,by simp⟩
  .cases ho
theorem one_cells{x:AV}(h:RepA w F G ι x v)(hx:x.one1):v.cells= #[v]:=by
 cases x with
 |p y=>
  cases y with
  |int k n=>
   have h:v=.int k n:=by grind [RepA,RepP]
   subst h;rfl
  |bool b=>
   have h:v=.bool b:=by grind [RepA,RepP]
   subst h;rfl
  |str s=>
   have h:=lC h;subst h;rfl
  |sl o xs=>obtain⟨ad,cap,rfl,_⟩:=jQ h;rfl
  |agg xs=>exact hx.elim
  |fn f a b=>simp only[RepA,RepP]at h;obtain⟨_,_,rfl,_⟩:=h;rfl
  |nilf=>
   have h:v=.nilFunc:=by grind [RepA,RepP]
   subst h;rfl
  |pc xs=>simp only[RepA,RepP]at h;obtain⟨_,_,rfl,_⟩:=h;rfl
  |any=>exact hx.elim
  |dl xs=>grind [RepA,RepP]
  |bx xs=>grind [RepA,RepP]
  |nl=>
   have h:v=.slice none 0 0:=by grind [RepA,RepP]
   subst h;rfl
 |inn a b c d=>obtain⟨_,ad,cap,rfl,_⟩:=iQ h;rfl
 |iptr a b c=>simp only[RepA]at h;obtain⟨_,rfl⟩:=h;rfl
 |mp a=>simp only[RepA]at h;subst h;rfl
 |ref a b c=>obtain⟨ad,cap,rfl,_⟩:=cS h;rfl
 |ptr a b=>simp only[RepA]at h;subst h;rfl
 |prs a b=>simp only[RepA]at h;subst h;rfl
 |agg xs=>exact hx.elim
 |tup xs=>exact hx.elim
 |fn f a b=>simp only[RepA]at h;obtain⟨_,_,rfl,_⟩:=h;rfl
theorem wv{F:Nat->Prop}{places:List Nat}{g:Nat->Option (Nat×Nat)}(hg:∀i o,places[i]? =some o->g i=some (o,1)){ρ:Operand->AV}{ε:Operand->Value}(hρ:∀x,RepA w F G ι (ρ x) (ε x))(hn:∀x i,(ρ x).has i=true->A i):∀(l:List (Nat×Operand)) (acc:List AV) (cells:Array Value) (K:List AV->Prop),
  RepAL w F G ι acc cells.toList->(∀i,AV.hasL acc i=true->A i)->jJ places acc (l.map λp=>(p.1,ρ p.2)) K->
  ∃cs cells',Instr.fill g cells (l.map λp=>(p.1,ε p.2))=some cells'/\RepAL w F G ι cs cells'.toList/\(∀i,AV.hasL cs i=true->A i)/\K cs
 |[],acc,cells,K,hr,ha,hK=>⟨acc,cells,rfl,hr,ha,hK⟩
 |(i,x)::l,acc,cells,K,hr,ha,hK=>by
  simp only[zC3,jJ]at hK;split at hK
  .rename_i o e
   obtain⟨hlt,hx,hK⟩:=hK;have hc:=one_cells (hρ x) hx;have hlen:=d4 hr;have hsz:o<cells.size:=by simp at hlen;omega
   obtain⟨cs,cells',h1,h2,h3,h4⟩:=wv hg hρ hn l (acc.set o (ρ x)) (cells.setIfInBounds o (ε x)) K (by grind [yN]) (λj hj=>by
    grind [CH]) hK
   grind [Instr.fill]
  .exact hK.elim
theorem sA(hp:fJ P t=some places){inf:TypeInfo}(hinf:P.info? t=some inf){z:Value}(hz:inf.zero=some z):
  ∃g:Nat->Option (Nat×Nat),(∀i o,places[i]? =some o->g i=some (o,1))/\∀parts,P.built t parts=Instr.fill g z.cells parts:=by
 unfold fJ at hp;split at hp
 .rename_i fs hu
  refine⟨λi=>(places.map λo=>(o,1)).toArray[i]?,λi o e=>by simp[e],λparts=> ?_⟩;simp only[Program.built,hinf,hu,hz,tM _ _ hp]
 .rename_i n e hu
  split at hp
  .rename_i ie hie
   split at hp
   .rename_i h1
    simp only[zF2]at hp;subst hp;refine⟨λi=>some (i*ie.size,ie.size),λi o q=> ?_,λparts=> ?_⟩
    .grind
    grind [Program.built]
   .cases hp
  .cases hp
 .cases hp
theorem Fp(h:Rel w0 nA nt M G ι0 A w S ι a)(hd:∀d,o.dst=some d->d<nt){parts:Array (Nat×Operand)}
  (ho:o.op=.build t parts) (hK:oS P t (parts.toList.map λp=>(p.1,Gl.BH S p.2)) λv=>K ⟨v,[],[]⟩):Does P w0 nA nt M G ι0 A k o w S a K:=by
 unfold oS at hK;split at hK
 .rename_i places zs hp hz
  unfold ip at hz;split at hz
  .rename_i inf hinf
   split at hz
   .rename_i z hzz
    simp only[zF2]at hz;subst hz;obtain⟨g,hg,hb0⟩:=sA hp hinf hzz;obtain⟨cs,cells,hf,hr,hn,hk⟩:=wv (F:=Held S.h ι) (ε:=a.eval) (A:=A) hg h.opd h.opd_named parts.toList _ z.cells _
     (RepAL_p.2 (by
      have:∀l:List Value,RepL w (Held S.h ι) G (l.map λv=>(bM v).cell) l:=λl=>by
       induction l with
       |nil=>simp[RepL]
       |cons v l ih=>grind [RepL,lJ]
      grind)) (λi hi=>by
       have:∀l:List PV,AV.hasL (l.map .p) i=false:=λl=>by
        induction l with
        |nil=>rfl
        |cons v l ih=>simp[AV.hasL,AV.has,ih]
       grind) hK
    have hb:P.built t (parts.toList.map λp=>(p.1,a.eval p.2))=some cells:=(hb0 _).trans hf;refine ax h hd (v:=.agg cs) (val:=.agg cells) ?_ (by grind [RepA]) (by simpa[AV.has]using hn) hk;simp_all [run_build,execOp]
   .cases hz
  .cases hz
 .exact hK.elim
end
section
variable {P:Program}{sg:FuncId->List Bool}{w0:World}{nA nt:Nat}{M G:Nat->Prop}{ι0:Nat->Loc}{A:Nat->Prop}{w w':World}{S:St}{ι:Nat->Loc}{a:Act}
theorem Ja(h:Rel w0 nA nt M G ι0 A w S ι a)(hd:∀d,o.dst=some d->d<nt){op:BinOp}(ho:o.op=.binOp op t x y t')
  (hK:xI op (Gl.BH S x) (Gl.BH S y) λv=>K ⟨.p v,[],[]⟩):Does P w0 nA nt M G ι0 A k o w S a K:=by
 have hx:=h.opd x;have hy:=h.opd y;unfold xI at hK;split at hK
 .rename_i kx i ky j ex ey
  rw[ex]at hx;rw[ey]at hy;have hx:=fd hx;have hy:=fd hy;split at hK
  .obtain⟨rfl,hk⟩:=hK
   exact ax h hd (v:=.p (.int kx (kx.wrap (i+j)))) (val:=.int kx (kx.wrap (i+j))) (by simp_all [execOp,bg,binOp,Op.intArith]) (by simp only[RepA,RepP]) (by simp[AV.has]) hk
  .obtain⟨rfl,hk⟩:=hK
   exact ax h hd (v:=.p (.int kx (kx.wrap (i-j)))) (val:=.int kx (kx.wrap (i-j))) (by simp_all [execOp,bg,binOp,Op.intArith]) (by simp only[RepA,RepP]) (by simp[AV.has]) hk
  .obtain⟨rfl,hk⟩:=hK
   exact ax h hd (v:=.p (.int kx (kx.wrap (i*j)))) (val:=.int kx (kx.wrap (i*j))) (by simp_all [execOp,bg,binOp,Op.intArith]) (by simp only[RepA,RepP]) (by simp[AV.has]) hk
  .obtain⟨rfl,hk⟩:=hK
   exact ax h hd (v:=.p (.int kx (TO kx i j))) (val:=.int kx (TO kx i j)) (by simp_all [execOp,bg,binOp,Op.intBits,TO]) (by simp only[RepA,RepP]) (by simp[AV.has]) hk
  .obtain⟨rfl,hk⟩:=hK
   exact ax h hd (v:=.p (.int kx (Pw kx i j))) (val:=.int kx (Pw kx i j)) (by simp_all [execOp,bg,binOp,Op.intBits,Pw]) (by simp only[RepA,RepP]) (by simp[AV.has]) hk
  .exact hK.elim
 .exact hK.elim
theorem vz{i:TypeInfo}(hu:P.underlying t=some (.slice e))(hi:P.info? e=some i)(hs:i.size=1){lo:Option Value}{kh km:IntKind}{l h m:Int}
  (hl:(lo=none/\l=0)\/∃k,lo=some (.int k l)) (h0:0<=l) (h1:l<=h) (h2:h<=m) (h3:m<=cap) (w:World):
  ∃v,(Instr.sliceAt t (.slice ad len cap) lo (some (.int kh h)) (some (.int km m))).run P w=.ok v w:=by
 have e1:(0<=m/\m<=(cap:Int)):=⟨by omega,h3⟩;have e2:(0<=h/\h<=(m.toNat:Int)):=⟨by omega,by omega⟩;have e3:(0<=l/\l<=(h.toNat:Int)):=⟨h0,by omega⟩;rcases hl with⟨rfl,rfl⟩|⟨k,rfl⟩<;>
  simp[Instr.sliceAt,Instr.slice,zD2 hu,Instr.sliceBounds,Instr.sliceBound,asIntOf,sizeOf,typeInfo,hi,hs,e1,e2,e3]<;>rw[zB0 (by omega)]<;>(try simp)<;>(try (rw[zB0 (by omega)]))<;>(try simp)
theorem CZ(h:Rel w0 nA nt M G ι0 A w S ι a)(hd:∀d,o.dst=some d->d<nt){lo hi mx:Option Operand}
  (ho:o.op=.slice t x lo hi mx) (hK:kJ P t (Gl.BH S x) lo hi mx S.h (Gl.BH S) K):Does P w0 nA nt M G ι0 A k o w S a K:=by
 have hx:=h.opd x;have nx:=h.opd_named x;unfold kJ at hK;split at hK
 .rename_i id off len e
  rw[e]at hx nx;obtain⟨ad,cap,hv,hl,hcap,hm,hc⟩:=cS hx;split at hK
  .rename_i m c hblk
   obtain⟨ht,hlc,hb⟩:=hK;obtain⟨g1,g2,_⟩:=h.heap.live id m c hblk;obtain⟨el,i,zv,hu,hi',_,hsz,_⟩:=da ht;split at hb
   .obtain⟨hh,l,⟨h0,h1,h2,hk⟩,hlo,hhi⟩:=OG h hb
    refine ax h hd (val:=.slice (if cap=l.toNat then ad else ad.map (·.add l.toNat)) (hh.toNat-l.toNat) (cap-l.toNat)) ?_ ?_ ?_ hk
    .simp only[execOp,ho,hv,zD4,Option.map_none]
     rw[mW hu hi' hsz hlo hhi h0 h1 (by omega)];rfl
    .grind [RepA,fE]
    grind [AV.has]
   .rename_i ox
    obtain⟨hn,hb⟩:=hb;rcases dH h hb with⟨e1,_⟩|⟨_,km,im,e1,em,hb⟩
    .cases e1
    .cases e1
     rcases dH h hb with⟨rfl,_⟩|⟨oh,kh,ih,rfl,eh,hb⟩
     .exact absurd rfl hn
     .rcases dH h hb with⟨rfl,hb⟩|⟨ol,kl,il,rfl,el',hb⟩
      .obtain⟨h0,h1,h2,h3,hk⟩:=hb
       obtain⟨v,hr⟩:=vz hu hi' hsz (ad:=ad) (len:=len) (cap:=cap) (lo:=none) (kh:=kh) (km:=km) (.inl ⟨rfl,rfl⟩) h0 h1 h2 (by omega) w;refine ax h hd (v:=.p .any) (val:=v) ?_ (by simp only[RepA,RepP]) (by simp[AV.has]) hk;simp_all [execOp,zD4,zE4,Option.map_none]
      .obtain⟨h0,h1,h2,h3,hk⟩:=hb
       obtain⟨v,hr⟩:=vz hu hi' hsz (ad:=ad) (len:=len) (cap:=cap) (lo:=some (.int kl il)) (kh:=kh) (km:=km) (.inr ⟨kl,rfl⟩) h0 h1 h2 (by omega) w;refine ax h hd (v:=.p .any) (val:=v) ?_ (by simp only[RepA,RepP]) (by simp[AV.has]) hk;simp_all [execOp,zD4,zE4]
  .exact hK.elim
 .exact hK.elim
theorem u0{z:Value}(hz:z.cells= #[z])(n:Nat):(Builtin.zeroCells z.cells n).toList=List.replicate n z:=by
 apply zI7;intro i;simp only[Builtin.zeroCells,hz,List.getElem?_replicate,List.size_toArray,zC1,List.length_nil,zI0,Nat.mul_one,Nat.mod_one,Array.toList_map,Array.toList_range,zA5];grind
theorem wD(h:Rel w0 nA nt M G ι0 A w S ι a)(hd:∀d,o.dst=some d->d<nt)
  (ho:o.op=.call {callee:=.builtin .clear,args:=⟨[x]⟩,argTypes:=⟨[t]⟩}) (hK:li P t S.h (Gl.BH S x) K):Does P w0 nA nt M G ι0 A k o w S a K:=by
 have hx:=h.opd x;have nx:=h.opd_named x;unfold li at hK;split at hK
 .rename_i id off n e
  rw[e]at hx nx;obtain⟨ad,cap,hv,hl,hcap,hm,hc⟩:=cS hx;have hid:A id:=nx id (by simp[AV.has]);split at hK
  .rename_i b z m c hsl hblk
   obtain⟨hle,hzok,hk⟩:=hK;obtain⟨e,inf,zv,hu,hi,hz,hsz,hzs,hz1,_,_,rfl⟩:=rE hsl;obtain⟨g1,g2,g3⟩:=h.heap.live id m c hblk;have hzc:=iy hzs hz1;by_cases hn0:n=0
   .subst hn0
    have hr:(execOp a.eval o).run P w=.ok (.value (.tuple #[])) w:=by
     simp only[execOp,ho,resolve,invoke,builtin,zD4,zI2,zD6,List.map_toArray,zC3,zE8,hv];cases ad<;>simp_all [Builtin.clear_,zD2]
    intro Kc Qc next
    refine cC hr (next _ _ _ ι hk ?_);rw[bV];have e1:hwsH S.h [(id,.live m (c.take off++List.replicate 0 (bM zv).cell++c.drop (off+0)))]=S.h:=by
     rw[fq];grind [zF0,updH]
    rw[e1];exact(h.put o.dst hd (v:=.p .any) (by simp only[RepA,RepP]) (by simp[AV.has])).mono λi hi=>.inl hi
   .have hc1:c≠[]:=by grind
    have hcap1:(ι id).cap≠0:=by omega
    rcases hc with hc|rfl
    .omega
    rcases g3 with g3|⟨⟨cs,E,lo,hi',hcell,hroom,hfr⟩,hrepc,gx⟩
    .exact absurd g3 hcap1
    .have hvl:(List.replicate n zv).length=n:=by simp
     have hst:=bY P (ι id).B ((ι id).off+off) E lo hi' (List.replicate n zv) 0 cs w hcell (hfr.imp_right And.right) (by rw[hvl];omega) (λv hv=>by grind);simp only[Nat.add_zero,hvl]at hst;have hr:(execOp a.eval o).run P w=.ok (.value (.tuple #[])) (w.setRow (ι id).B (cs.toList.take ((ι id).off+off)++List.replicate n zv++cs.toList.drop ((ι id).off+off+n)).toArray):=by
      obtain⟨n',rfl⟩:∃n',n=n'+1:=⟨n-1,by omega⟩;simp only[execOp,ho,resolve,invoke,builtin,zD4,zI2,zD6,List.map_toArray,zC3,zE8,hv];simp only[Builtin.clear_,zH8,zF3,zD4,zD2 hu,zD6,zeroValue,typeInfo,run_program,hi,hz,zI2,u0 hzc,hst]
     have hwr:Wrote w (w.setRow (ι id).B (cs.toList.take ((ι id).off+off)++List.replicate n zv++cs.toList.drop ((ι id).off+off+n)).toArray) (ι id).B _:=Wrote.setRow hcell (by simp;omega);have hBk:w0.heap.size<=(ι id).B\/M (ι id).B:=by
      grind
     rw[aY]at hrepc;have W:=h.heap.write (k:=id) (c':=c.take off++List.replicate n (bM zv).cell++c.drop (off+n)) hblk (.inl rfl) hcap1 hwr (ι id).off (ι id).cap (ι id).n (ι id).inn (zB1 _) rfl (by simp;omega) (by
      intro j y' hj;have htk:(cs.toList.take ((ι id).off+off)).length=(ι id).off+off:=by simp;omega
      have htc:(c.take off).length=off:=by simp;omega
      rw[zH8];rw[zA7,zE5]at hj;rw[zA7,zE5];split at hj
      .grind [cell?_eq]
      .rename_i hge
       rw[htc]at hj hge;rw[zA8 (by omega),htk,show(ι id).off+j-((ι id).off+off)=j-off from by omega];grind [go,gj,cell?_eq])
     obtain⟨ok,hh,st⟩:=W;have eι:aE ι id ⟨(ι id).B,(ι id).off,(ι id).cap,(ι id).n,(ι id).inn⟩=ι:=kb;have eh:updH (updH S.h id .dead) id (.live m (c.take off++List.replicate n (bM zv).cell++c.drop (off+n)))=hwsH S.h [(id,.live m (c.take off++List.replicate n (bM zv).cell++c.drop (off+n)))]:=by
      rw[fq];grind [updH]
     rw[eι,eh]at ok st;have h2:=h.stepK (A':=gh A k) (λi hi=>.inl hi) (hwr.keep hBk h.keep) ok st (λi hi=>LocEq.refl _) (λi hi=>by
      have hne2:i≠id:=λe=>hi (.inl (e▸hid));rw[fq];simp only[updH,hne2,zE3];exact h.alloc i λhA=>hi (.inl hA))
     intro Kc Qc next
     refine cC hr (next _ _ _ ι hk ?_);rw[bV];exact h2.put o.dst hd (v:=.p .any) (by simp only[RepA,RepP]) (by simp[AV.has])
  .rename_i b z m cs rs hsl hblk
   obtain⟨hz0,hle,hk⟩:=hK;obtain⟨e,inf,zv,hu,hi,hz,hsz,hzs,hz1,_,_,hzc⟩:=rE hsl;have hzn:zv=.slice none 0 0:=by
    rw[hz0]at hzc;have hzc:=hzc.symm;unfold bM at hzc;grind [PV.cell]
   subst hzn;have hcc:=iy hzs hz1;obtain⟨hvs,w',h',ι',rd,ws,hk',rfl,hst,hrel⟩:=vj (k:=k) (K:=K) (v:=.agg (List.replicate n (.p (.sl .own [])))) (val:=.agg ⟨List.replicate n (.slice none 0 0)⟩) (off:=off) (n:=n) h hid hblk
    (by grind [RepA,xd]) (by grind [AV.has,yl]) (BW ⟨by simp,hle,hk⟩)
   have hr:(execOp a.eval o).run P w=.ok (.value (.tuple #[])) w':=by
    by_cases hn0:n=0
    .subst hn0
     have hw:w'=w:=by
      have:(storeCells ⟨(ι id).B,(ι id).off+off,none⟩ ([]:List Value)).run P w=.ok () w:=rfl;have hst':(storeCells ⟨(ι id).B,(ι id).off+off,none⟩ ([]:List Value)).run P w=.ok () w':=hst;rw[this]at hst';simpa using hst'.symm
     subst hw;simp only[execOp,ho,resolve,invoke,builtin,zD4,zI2,zD6,List.map_toArray,zC3,zE8,hv];cases ad<;>simp_all [Builtin.clear_,zD2]
    .obtain⟨n',rfl⟩:∃n',n=n'+1:=⟨n-1,by omega⟩
     rcases hc with hc|rfl
     .omega
     have hst':(storeCells ⟨(ι id).B,(ι id).off+off,none⟩ (List.replicate (n'+1) (Value.slice none 0 0))).run P w=.ok () w':=hst;simp only[execOp,ho,resolve,invoke,builtin,zD4,zI2,zD6,List.map_toArray,zC3,zE8,hv];simp only[Builtin.clear_,zH8,zF3,zD4,zD2 hu,zD6,zeroValue,typeInfo,run_program,hi,hz,zI2,u0 hcc,hst']
   intro Kc Qc next
   refine cC hr (next _ _ _ ι' hk' ?_);rw[bV];exact hrel.put o.dst hd (v:=.p .any) (by simp only[RepA,RepP]) (by simp[AV.has])
  .exact hK.elim
 .exact hK.elim
end
section
variable {P:Program}{sg:FuncId->List Bool}{w0:World}{nA nt:Nat}{M G:Nat->Prop}{ι0:Nat->Loc}{A:Nat->Prop}{w w':World}{S:St}{ι:Nat->Loc}{a:Act}
theorem ni(h:Rel w0 nA nt M G ι0 A w S ι a)(hd:∀d,o.dst=some d->d<nt)(hk:¬A k){ι2:Nat->Loc}
  (h2:Rel w0 nA nt M G ι0 (λi=>A i\/i=k) w {S with h:=updH (hwsH S.h ws) k (.deep false [] rs)} ι2 a)
  {cells:Array Value} {E:TypeId} {lo hi:Nat} (hp:Pushed w w' (.cells cells E (lo,hi))) (hfr:hi<=lo\/SB=true/\cells.size<=lo) (xs:List DC) (cap:Nat) (hcap:cap<=maxLen) (hc:cap<=cells.size) (hx:xs.length<=cap) (hns:xs.all DC.noSelf=true)
  (hxs:∀(j:Nat) (x:DC),xs[j]? =some x->∃v,cells[j]? =some v/\v.oneCell'=true/\dcRep w (Held (updH (hwsH S.h ws) k (.deep false [] rs)) ι2) G (ι2 k) rs x v) {v:AV} {val:Value} {rd:List Nat}
  (hr:(execOp a.eval o).run P w=.ok (.value val) w')
  (hv:(∃len,v=.ref k 0 len/\len<=cap/\val=.slice (some ⟨w.heap.size,0,none⟩) len cap)\/(v=.ptr k 0/\val=.pointer (some ⟨w.heap.size,0,none⟩)))
  (hK:K ⟨v,ws++[(k,.deep false xs rs)],rd⟩):Does P w0 nA nt M G ι0 A k o w S a K:=by
 have hb:(updH (hwsH S.h ws) k (.deep false [] rs)) k=.deep false [] rs:=by simp[updH]
 have okk:=h2.heap.deep hb;have hsz:=h.keep.size;have hG:=h.new _ h.keep.size;have e1:updH (updH (hwsH S.h ws) k (.deep false [] rs)) k (.deep false xs rs)=hwsH S.h (ws++[(k,.deep false xs rs)]):=by
  rw[bO,fq];grind [updH]
 have ek:hwsH S.h (ws++[(k,.deep false xs rs)]) k=.deep false xs rs:=by rw[<-e1];simp[updH]
 have key:=h2.heap.writeS (w':=w') (h':=hwsH S.h (ws++[(k,.deep false xs rs)])) (ι':=aE ι2 k ⟨w.heap.size,0,cap,(ι2 k).n,(ι2 k).inn⟩) (k:=k) (λi=>i=k)
  (λi hX _=>⟨by rw[<-e1];grind [updH],by grind [aE]⟩)
  (λi hX hik=>absurd hX hik)
  (λB hB _=>hp.old hB)
  (λB ho=>by
   rw[ek]at ho;simp only[aE,zH3]at ho;rcases ho with⟨_,rfl⟩|ho
   .grind
   .exact .inr ⟨k,rfl,by simp only[hb];exact .inr ho,λq=>absurd rfl q⟩)
  (λst i hik=>by
   have hik:i=k:=hik.elim _root_.id _root_.id;subst hik;rw[ek];simp only[aE,zH3];refine okk.outer st rfl rfl (λB hB _=>hp.old hB) (λr c hr z e=> ?_) ⟨hx,hcap,.inr ⟨⟨cells,E,lo,hi,hp.at,by simpa using hc,hfr⟩,.inl ⟨hsz,hG⟩,λj x hj=> ?_⟩⟩
   .have:=okk.lt (B:=w.heap.size) (.inr ⟨r,c,hr,z,e⟩);omega
   .obtain⟨u,u1,u2,u3⟩:=hxs j x hj
    refine⟨u,by rw[cell?_eq,hp.at];simpa using u1,u2, ?_⟩;exact dcRep.loc' (l:=ι2 i) (zC8.1 hns _ (zF9 hj)) rfl (u3.tr st λ_ _ _ h=>h))
 obtain⟨ok,_,st⟩:=key;have hne:∀{i},A i->i≠k:=λ{i} hi e=>hk (e▸hi);have fin:Rel w0 nA nt M G ι0 (gh A k) w' {S with h:=hwsH S.h (ws++[(k,.deep false xs rs)])} (aE ι2 k ⟨w.heap.size,0,cap,(ι2 k).n,(ι2 k).inn⟩) a:=
  ⟨h.keep.trans (hp.keep M),ok,λt=>RepA.tr st (λ_ _ _ h=>h) _ _ (λi hi=>by
    have:i≠k:=hne (h.named t i hi);simp[aE,this,LocEq.refl]) (h2.slots t),λi hi=>by
    have q:i≠k:=λe=>hi (.inr ⟨by omega,by omega⟩);have:=h2.alloc i λhA=>hi (hA.elim .inl λe=>absurd e q);rw[<-e1];grind [updH],λt i hi=>.inl (h.named t i hi),λj hj=>by
    have:j≠k:=hne (h.args j hj);simp only[aE,this,zE3];exact h2.loc j hj,λj hj=>.inl (h.args j hj),h.new,h.size,h.defers⟩
 intro Kc Qc next
 refine cC hr (next _ _ _ (aE ι2 k ⟨w.heap.size,0,cap,(ι2 k).n,(ι2 k).inn⟩) hK ?_);rw[bV];refine fin.put o.dst hd ?_ ?_
 .grind [RepA,aE]
 .rcases hv with⟨len,rfl,_,_⟩|⟨rfl,_⟩<;>
  .intro i hi
   simp[AV.has]at hi;exact .inr ⟨by omega,by omega⟩
theorem GG(h:Rel w0 nA nt M G ι0 A w S ι a)(hk:¬A k){vs:List AV}(hv:RepAL w (Held S.h ι) G ι vs vals)(hn:∀i,AV.hasL vs i=true->A i)
  (hT:k∉rd) (hm:OX false S.h k vs [] xs rs ws rd):
  ∃ι2,Rel w0 nA nt M G ι0 (λi=>A i\/i=k) w {S with h:=updH (hwsH S.h ws) k (.deep false [] rs)} ι2 a/\xs.length=vs.length/\
   ∀(i:Nat) (x:DC) (u:Value),xs[i]? =some x->vals[i]? =some u->u.oneCell'=true/\u.cells= #[u]/\dcRep w (Held (updH (hwsH S.h ws) k (.deep false [] rs)) ι2) G (ι2 k) rs x u:=by
 obtain⟨ι1,h1,hι1,_⟩:=h.empty hk;have hb1:(updH S.h k (.deep false [] [])) k=.deep false [] []:=by simp[updH]
 have hne:∀{i},A i->i≠k:=λ{i} hi e=>hk (e▸hi);have held:∀B,Held (updH S.h k (.deep false [] [])) ι1 B->Held S.h ι B:=by
  rintro B ⟨i,ho⟩;by_cases e:i=k
  .subst e
   have ho':=ho;simp only[updH,zH3]at ho';rcases ho' with⟨q,_⟩|⟨r,c,hr,_⟩
   .omega
   .simp at hr
  .simp only[updH,e,zE3]at ho
   by_cases hA:A i
   .rw[hι1 i hA]at ho;exact⟨i,ho⟩
   .rw[h.alloc i hA]at ho;exact ho.elim
 have hv1:RepAL w (Held (updH S.h k (.deep false [] [])) ι1) G ι1 vs vals:=RepAL.tr (λB o v hF hv=>⟨hv,λq=>hF (held B q)⟩) (λ_ _ _ h=>h) _ _ (λi hi=>LocEq.of_eq (hι1 i (hn i hi))) hv;obtain⟨ι2,mv,hl,hwT,hx⟩:=qG (A:=λi=>A i\/i=k) (T:=k) (.inr rfl) h1 hb1 hv1 (λi hi=>.inl (hn i hi)) (h0:=S.h) (λi hi=>by
  grind [updH]) hm
 have eh:updH (hwsH (updH S.h k (.deep false [] [])) ws) k (.deep false [] rs)=updH (hwsH S.h ws) k (.deep false [] rs):=yk hwT;refine⟨ι2, ?_,hl,λi x u h1 h2=> ?_⟩
 .have:=mv.rel;grind
 grind
theorem Dc(h:Rel w0 nA nt M G ι0 A w S ι a)(hd:∀d,o.dst=some d->d<nt)(hk:¬A k){parts:Array (Nat×Operand)}
  (ho:o.op=.buildSlice t n parts) (hK:oT P t n parts k (Gl.BH S) S.h K):Does P w0 nA nt M G ι0 A k o w S a K:=by
 obtain⟨ht,hp,hn,hK⟩:=hK;obtain⟨e,inf,zv,hu,hi,hz,hsz,hzs,hz1,hb⟩:=da ht;obtain⟨xs,rs,ws,rd,⟨hns,hk'⟩,mr,_,hT,_⟩:=ng hK;have hpl:parts.toList.map (·.1)=List.range n:=by grind [gU]
 have hpn:parts.toList.length=n:=by have:=zB5 List.length hpl;simpa using this
 let vals:List Value:=parts.toList.map λp=>a.eval p.2;have hvals:RepAL w (Held S.h ι) G ι (parts.toList.map λp=>Gl.BH S p.2) vals:=tH (λp:Nat×Operand=>h.opd p.2) parts.toList;have hnamed:∀i,AV.hasL (parts.toList.map λp=>Gl.BH S p.2) i=true->A i:=by
  have:=h.opds_named (parts.toList.map (·.2));grind [Function.comp_def]
 obtain⟨ι2,h2,hxl,hx⟩:=GG h hk hvals hnamed hT mr;have hvn:vals.length=n:=by grind
 have hxn:xs.length=n:=by grind
 have h1:∀v∈vals,v.oneCell'=true:=by
  intro v hv;obtain⟨j,hj⟩:=List.getElem?_of_mem hv;have hlt:=(zB4.1 hj).1;exact(hx j _ v (zA1 (show j<xs.length by omega)) hj).1
 have hr:=om (P:=P) (w:=w) hu hi hz hsz (iy hzs hz1) hvn hn h1 (parts:=parts.map λp=>(p.1,a.eval p.2)) (by
  simp only[Array.toList_map];rw[or (parts.toList.map λp=>(p.1,a.eval p.2)) n (by grind [Function.comp_def])];simp[vals,Function.comp_def])
 refine ni h hd hk h2 (Pushed.alloc w (.cells vals.toArray e)) (lo:=0) (hi:=0) (.inl (zB1 _)) xs n (by grind [maxLen]) (by simp;omega) (by omega) hns (λj x hj=> ?_) (v:=.ref k 0 n) ?_ (.inl ⟨n,rfl,zB1 _,rfl⟩) hk'
 .grind
 simp_all [execOp,zD4]
theorem rT{z:Value}(h:(bM z).cell=.sl .fr []):z=.slice none 0 0:=by
 unfold bM at h;grind [PV.cell]
theorem Fj(h:Rel w0 nA nt M G ι0 A w S ι a)(hd:∀d,o.dst=some d->d<nt)(hk:¬A k){l c:Operand}
  (ho:o.op=.makeSlice t l c) (hK:Ce P t k (Gl.BH S l) (Gl.BH S c) K):Does P w0 nA nt M G ι0 A k o w S a K:=by
 have hl:=h.opd l;have hc:=h.opd c;unfold Ce at hK;split at hK
 .rename_i k1 i k2 j e1 e2
  rw[e1]at hl;rw[e2]at hc;have hl:=fd hl;have hc:=fd hc;obtain⟨h0,h1,h2,hs,hK⟩:=hK;unfold vV at hs;split at hs
  .rename_i b hs'
   obtain⟨e,inf,zv,hu,hi,hz,hsz,hzs,hz1,hb,hb64,hzc⟩:=rE hs';have hzn:=rT hzc.symm;subst hzn;have hm:j.toNat<=maxLen:=by grind [maxLen]
   have hbytes:(inf.bytes:Int)*j<=281474976710656:=by
    have h64:(inf.bytes:Int)<=64:=by omega
    have h3:(inf.bytes:Int)*j<=64*1099511627776:=Int.mul_le_mul h64 h2 (by omega) (by omega);omega
   have hr:=run_make (P:=P) w t e inf _ hu hi hz k1 k2 i j h0 h1 hbytes (by omega);obtain⟨ι1,hE,_,_⟩:=h.empty hk;refine ni (ws:=[]) (rs:=[]) h hd hk hE (Pushed.alloc w (.cells (madeCells (Value.slice none 0 0).cells (j.toNat*inf.size)) e)) (lo:=0) (hi:=0) (.inl (zB1 _)) (List.replicate i.toNat (.v (.sl .own []))) j.toNat hm ?_ ?_ ?_ ?_ (v:=.ref k 0 i.toNat) ?_ (.inl ⟨i.toNat,rfl,by omega,rfl⟩) hK
   .grind [size_madeCells]
   .simp;omega
   .rw[zC8];intro x hx;rw[List.mem_replicate]at hx;rw[hx.2];rfl
   .intro n x hx
    rw[List.getElem?_replicate]at hx;split at hx
    .rename_i hn
     simp only[zF2]at hx;subst hx;refine⟨.slice none 0 0, ?_,rfl, ?_⟩
     .grind [madeCells,Value.cells]
     .show RepP _ _ _ (.sl .own []) _
      grind [RepP]
    .cases hx
   simp_all [execOp,zD4]
  .cases hs
 .exact hK.elim
theorem yf(h:oB (bM v).cell=true):v=.slice none 0 0:=by
 grind [rT,oB]
theorem De(h:Rel w0 nA nt M G ι0 A w S ι a)(hd:∀d,o.dst=some d->d<nt)(hk:¬A k)
  (ho:o.op=.alloc t) (hK:ri P t k K):Does P w0 nA nt M G ι0 A k o w S a K:=by
 unfold ri ip at hK;split at hK
 .rename_i xs hz
  split at hz
  .rename_i inf hinf
   split at hz
   .rename_i z hzz
    simp only[zF2]at hz;subst hz;obtain⟨hne,hbig,hall,hK⟩:=hK;have hnil:∀(j:Nat) (v:Value),z.cells.toList[j]? =some v->v=.slice none 0 0:=λj v hv=>yf (zC8.1 hall (bM v).cell (zD0.2 ⟨v,zF9 hv,rfl⟩));have hbig':z.cells.size<=maxLen:=by grind [maxLen]
    obtain⟨ι1,hE,_,_⟩:=h.empty hk;refine ni (ws:=[]) (rs:=[]) h hd hk hE (Pushed.alloc w (.cells z.cells t)) (lo:=0) (hi:=0) (.inl (zB1 _)) _ z.cells.size hbig' (zB1 _) (by simp) ?_ ?_ (v:=.ptr k 0) ?_ (.inr ⟨rfl,rfl⟩) hK
    .rw[zC8];intro x hx;simp only[zD0]at hx;obtain⟨_,_,rfl⟩:=hx;rfl
    .intro j x hx
     simp only[zA5,zG2]at hx;obtain⟨_,⟨u,hu,rfl⟩,rfl⟩:=hx;have e:=hnil j u hu;subst e;exact⟨_,by simpa using hu,rfl,gj (.slice none 0 0)⟩
    simp_all [execOp,Instr.alloc,zeroValue,typeInfo,newVar,newRow]
   .cases hz
  .cases hz
 .exact hK.elim
theorem IZ(h:Rel w0 nA nt M G ι0 A w S ι a)(hd:∀d,o.dst=some d->d<nt)(hk:¬A k)
  (ho:o.op=.box t x) (hK:adF S.h k (Gl.BH S x) K):Does P w0 nA nt M G ι0 A k o w S a K:=by
 obtain⟨xs,rs,ws,rd,⟨hne,hns,hbig,hk'⟩,mr,_,hT,_⟩:=ng hK;obtain⟨vals,hvals,hcells⟩:=Hw (h.opd x);obtain⟨ι2,h2,hxl,hx⟩:=GG h hk hvals (Dw (h.opd_named x)) hT mr;have hvl:vals.length=xs.length:=by grind [d4]
 have e1:(a.eval x).cells=⟨vals⟩:=hcells λu hu=>by
  obtain⟨i,hi⟩:=List.getElem?_of_mem hu;have hlt:=(zB4.1 hi).1;exact(hx i _ u (zA1 (show i<xs.length by omega)) hi).2.1
 refine ni h hd hk h2 (Pushed.alloc w (.cells (a.eval x).cells t)) (lo:=0) (hi:=0) (.inl (zB1 _)) xs xs.length (by grind [maxLen]) (by rw[e1];simp;omega) (zB1 _) hns (λj y hj=> ?_) (v:=.ptr k 0) ?_ (.inr ⟨rfl,rfl⟩) hk'
 .have hlt:=(zB4.1 hj).1
  have hjv:=zA1 (l:=vals) (i:=j) (by omega);grind
 simp_all [execOp,Instr.box,newVar,newRow]
theorem yB(h:Rel w0 nA nt M G ι0 A w S ι a)(hd:∀d,o.dst=some d->d<nt)(hk:¬A k)
  (hr:(execOp a.eval o).run P w=.ok (.value (a.eval x)) w) (hK:wV k (Gl.BH S x) K):Does P w0 nA nt M G ι0 A k o w S a K:=by
 have hx:=h.opd x;unfold wV at hK;split at hK
 .rename_i xs e
  rw[e]at hx;simp only[RepA,RepP]at hx;obtain⟨a',cap,ev,_,_,ho,_⟩:=hx;obtain⟨hxs,rfl,rfl⟩:=ho trivial;subst hxs;obtain⟨_,hK⟩:=hK;intro Kc Qc next
  obtain⟨ok,hh⟩:=h.heap.nilB (k:=k) (.deep false [] []) ⟨0,0,0,0,bC⟩ (λB ho=>by rcases ho with⟨ho,_⟩|⟨r,c,hr,_⟩<;>simp at*) λF=>
   ⟨rfl,⟨zB1 _,Nat.zero_le _,.inl rfl⟩,λr c hr=>by simp at hr,λr c r' c' hr=>by simp at hr,λr c hr=>by simp at hr⟩
  have st:Stays w w (Held S.h ι) (Held (updH S.h k (.deep false [] [])) (aE ι k ⟨0,0,0,0,bC⟩)):=λB o v hF hv=>⟨hv,λh'=>hF (hh B h')⟩;have h1:=h.step (A':=gh A k) (λi hi=>.inl hi) (Keep.refl w M) ok st (λi hi=>by
   grind [aE,LocEq.refl]) (λi hi=>by
   have hne:i≠k:=λe=>hi (.inr ⟨by omega,by omega⟩);simp only[updH,hne,zE3];exact h.alloc i λhA=>hi (.inl hA))
  refine cC hr (next _ _ _ (aE ι k ⟨0,0,0,0,bC⟩) hK ?_);rw[bV];refine h1.put o.dst hd ?_ ?_
  .grind [RepA,aE]
  .intro i hi
   simp[AV.has]at hi;exact .inr ⟨by omega,by omega⟩
 .exact hK.elim
theorem Rel.nils(h:Rel w0 nA nt M G ι0 A w S ι a){k:Nat}(hA:∀x,x<256->¬A (k+x)):∀n,n<=256->
  ∃ι',Rel w0 nA nt M G ι0 (λi=>A i\/(k<=i/\i<k+n)) w {S with h:=hwsH S.h (nK k n)} ι' a/\(∀i,i<n->(ι' (k+i)).cap=0)
 |0,_=>⟨ι,h.mono λi hi=>.inl hi,λi hi=>absurd hi (Nat.not_lt_zero i)⟩
 |n+1,hn=>by
  obtain⟨ι1,h1,hc⟩:=Rel.nils h hA n (by omega);have hk:¬(A (k+n)\/(k<=k+n/\k+n<k+n)):=λq=>q.elim (hA n (by omega)) (by omega);obtain⟨ok,hh⟩:=h1.heap.nil (h1.alloc _ hk) false ⟨0,0,0,0,bC⟩ rfl;have st:Stays w w (Held (hwsH S.h (nK k n)) ι1) (Held (updH (hwsH S.h (nK k n)) (k+n) (.live false [])) (aE ι1 (k+n) ⟨0,0,0,0,bC⟩)):=λB o v hF hv=>⟨hv,λh'=>hF (hh B h')⟩;have e:updH (hwsH S.h (nK k n)) (k+n) (.live false [])=hwsH S.h (nK k (n+1)):=by
   simp only[nK,zF7,zE2,zC3,zE8,bO];rfl
  have h2:=h1.step (A':=λi=>A i\/(k<=i/\i<k+(n+1))) (λi hi=>hi.elim .inl λq=>.inr ⟨q.1,by omega⟩) (Keep.refl w M) ok st (λi hi=>by
   grind [aE,LocEq.refl]) (λi hi=>by
   have hne:i≠k+n:=λe=>hi (.inr ⟨by omega,by omega⟩);simp only[updH,hne,zE3];exact h1.alloc i λhA=>hi (hA.elim .inl λq=>.inr ⟨q.1,by omega⟩))
  grind [aE]
theorem Db(h:Rel w0 nA nt M G ι0 A w S ι a)(hd:∀d,o.dst=some d->d<nt)(hA:∀x,x<256->¬A (k+x)){parts:Array (Nat×Operand)}
  (ho:o.op=.build t parts) (hK:rg P t (parts.toList.map λp=>(p.1,Gl.BH S p.2)) k K):Does P w0 nA nt M G ι0 A k o w S a K:=by
 unfold rg at hK;split at hK
 .rename_i places n hnt
  obtain⟨hn,hK⟩:=hK;unfold Us at hnt;split at hnt
  .rename_i places' zs hp hz
   split at hnt
   .rename_i hall
    simp only[zF2,Prod.mk.injEq]at hnt;obtain⟨rfl,rfl⟩:=hnt;unfold ip at hz;split at hz
    .rename_i inf hinf
     split at hz
     .rename_i z hzz
      simp only[zF2]at hz;subst hz;obtain⟨g,hg,hb0⟩:=sA hp hinf hzz;rw[zB2]at hn hK;obtain⟨ι1,h1,hc⟩:=h.nils hA z.cells.toList.length (by omega);have hnil:∀i (v:Value),z.cells.toList[i]? =some v->v=.slice none 0 0:=λi v hv=>yf (zC8.1 hall (bM v).cell (zD0.2 ⟨v,zF9 hv,rfl⟩));have hrep:RepAL w (Held (hwsH S.h (nK k z.cells.toList.length)) ι1) G ι1 ((List.range z.cells.toList.length).map λi=>AV.ref (k+i) 0 0) z.cells.toList:=by
       grind [xc,RepA]
      have hacc:∀i,AV.hasL ((List.range z.cells.toList.length).map λi=>AV.ref (k+i) 0 0) i=true->gh A k i:=λi hi=>by
       have:∀l:List Nat,AV.hasL (l.map λi=>AV.ref (k+i) 0 0) i=true->∃j∈l,i=k+j:=λl=>by
        induction l with
        |nil=>intro q;cases q
        |cons x l ih=>
         intro q;simp only[zC3,AV.hasL,AV.has,zI8,beq_iff_eq]at q;rcases q with q|q
         .simp_all
         grind
       obtain⟨j,hj,e⟩:=this _ hi;have:=zD5.1 hj;exact .inr ⟨by omega,by omega⟩
      have h2:Rel w0 nA nt M G ι0 (gh A k) w {S with h:=hwsH S.h (nK k z.cells.toList.length)} ι1 a:=h1.mono λi hi=>hi.elim .inl λq=>.inr ⟨q.1,by omega⟩;obtain⟨cs,cells,hf,hr,hn',hk⟩:=wv (F:=Held (hwsH S.h (nK k z.cells.toList.length)) ι1) (ε:=a.eval) (A:=gh A k) hg h2.opd h2.opd_named parts.toList _ z.cells _ hrep hacc hK;have hb:P.built t (parts.toList.map λp=>(p.1,a.eval p.2))=some cells:=(hb0 _).trans hf;intro Kc Qc next
      have e:(parts.map λp=>(p.1,a.eval p.2)).toList=parts.toList.map λp=>(p.1,a.eval p.2):=by simp
      have hrun:=run_build (P:=P) w t (parts.map λp=>(p.1,a.eval p.2)) cells (by rw[e];exact hb);refine cC (v:=.agg cells) (w':=w) (by simp[execOp,ho,hrun]) (next _ _ _ ι1 hk ?_);rw[bV];exact h2.put o.dst hd (by grind [RepA]) (by grind [AV.has])
     .cases hz
    .cases hz
   .cases hnt
  .cases hnt
 .exact hK.elim
theorem Ma(h:Rel w0 nA nt M G ι0 A w S ι a)(hd:∀d,o.dst=some d->d<nt)(hA:∀x,x<256->¬A (k+x))(hK:BJ P (Gl.BH S) S.h k o.op K):Does P w0 nA nt M G ι0 A k o w S a K:=by
 have hk:¬A k:=by simpa using hA 0 (by omega)
 unfold BJ at hK;split at hK
 .grind [Dc]
 .grind [Fj]
 .grind [De]
 .grind [IZ]
 .grind [Db]
 .rename_i ho;exact yB h hd hk (by simp[execOp,ho]) hK
 .rename_i ho;exact yB h hd hk (by simp[execOp,ho]) hK
 .exact hK.elim
end
section
variable {P:Program}{sg:FuncId->List Bool}{w0:World}{nA nt:Nat}{M G:Nat->Prop}{ι0:Nat->Loc}{A:Nat->Prop}{w w':World}{S:St}{ι:Nat->Loc}{a:Act}
theorem HeapOk.map(ok:HeapOk w z M G h ι){kt:Value->Prop}{es:List (PV×PV)}(hb:h id=.map m kt es):
  (ι id).cap≠0/\Org z M G m (ι id).B/\∃A clock,w.heap[(ι id).B]? =some (.map A clock)/\MapOk w (Held h ι) G kt es A:=by
 have:=ok.ok id;rw[hb]at this;exact this
theorem sb{x:PV}(hx:Cj x=true)(h:RepP w F G x v):v=XZ x:=by
 cases x<;>simp[Cj]at hx
 .grind [RepP,XZ]
 .grind [RepP,XZ]
 grind [RepP,XZ]
theorem Ci{x:PV}(hx:Ae x=true)(h:RepP w F G x v):v=kV x:=by
 cases x with
 |agg xs=>
  simp only[RepP]at h;obtain⟨cs,rfl,hc⟩:=h;have:cs=xs.map XZ:=by
   simp only[Ae,zC8]at hx
   induction xs generalizing cs with
   |nil=>simpa[RepL]using hc
   |cons y ys ih=>
    grind [RepL,sb]
  simp only[kV,this]
 |int k n=>exact sb (by simpa[Ae]using hx) h
 |bool b=>exact sb (by simpa[Ae]using hx) h
 |str s=>exact sb (by simpa[Ae]using hx) h
 |_=>simp[Ae,Cj]at hx
theorem Du{F:Nat->Prop}:∀{xs:List AV} {ys:List PV} {vs:List Value},Jj xs=some ys->RepAL w F G ι xs vs->RepL w F G ys vs
 |[],ys,vs,e,h=>by grind [Jj,RepAL,RepL]
 |x::xs,ys,vs,e,h=>by
  cases x with
  |p x=>
   simp only[Jj,zG2]at e;obtain⟨zs,e,rfl⟩:=e;simp only[RepAL]at h;obtain⟨u,us,rfl,h1,h2⟩:=h;simp only[RepL];exact⟨u,us,rfl,h1,Du e h2⟩
  |_=>simp[Jj]at e
theorem Hu{x:AV}(e:asK x=some q)(hq:Ae q=true)(h:RepA w F G ι x v):v=kV q:=by
 cases x with
 |p x=>simp only[asK,zF2]at e;subst e;exact Ci hq h
 |agg xs=>
  simp only[asK,zG2]at e;obtain⟨ys,e,rfl⟩:=e;simp only[RepA]at h;obtain⟨cs,rfl,hc⟩:=h;exact Ci hq (by simp only[RepP];exact⟨cs,rfl,Du e hc⟩)
 |_=>simp[asK]at e
theorem Aw(h:Rel w0 nA nt M G ι0 A w S ι a)(hd:∀d,o.dst=some d->d<nt)(hA:∀x,x<256->¬A (k+x)){r:Option Operand}
  (ho:o.op=.makeMap t r) (hK:Cd P t r k K):Does P w0 nA nt M G ι0 A k o w S a K:=by
 obtain⟨rfl,hK⟩:=hK;split at hK
 .rename_i kt z _
  intro Kc Qc next
  have hk:¬A k:=by simpa using hA 0 (by omega)
  have hp:Pushed w (w.alloc (.map #[] 0)) (.map #[] 0):=Pushed.alloc w _;have hl:∀B,owns (.map false (Iq P kt) []) ⟨w.heap.size,0,1,0,bC⟩ B->B=w.heap.size:=λB ho=>ho.2.symm;have ok:=h.heap.newB (k:=k) hp (b:=.map false (Iq P kt) []) (l:=⟨w.heap.size,0,1,0,bC⟩) hl
   ⟨by simp,.inl ⟨h.keep.size,h.new _ h.keep.size⟩, #[],0,hp.at,by simp,by simp,λq _ e he=>by simp at he,λq x hq=>by simp[mget]at hq⟩
  have st:=Stays.newB (ι:=ι) hp (h:=S.h) (k:=k) (b:=.map false (Iq P kt) []) (l:=⟨w.heap.size,0,1,0,bC⟩) hl;have h2:=h.step (A':=gh A k) (λi hi=>.inl hi) (hp.keep M) ok st (λi hi=>by
   grind [aE,LocEq.refl]) (λi hi=>by
   have hne:i≠k:=λe=>hi (.inr ⟨by omega,by omega⟩);simp only[updH,hne,zE3];exact h.alloc i λhA'=>hi (.inl hA'))
  have hr:(execOp a.eval o).run P w=.ok (.value (.map (some w.heap.size))) (w.alloc (.map #[] 0)):=by
   simp_all [Instr.makeMap,execOp,Option.map_none,zD4]
  refine cC hr (next _ _ _ (aE ι k ⟨w.heap.size,0,1,0,bC⟩) hK ?_);rw[bV];refine h2.put o.dst hd (by simp[RepA,aE]) λi hi=> ?_;simp only[AV.has,beq_iff_eq]at hi;exact .inr ⟨by omega,by omega⟩
 .exact hK.elim
theorem Gz{x:PV}(h:RepP w F G x v):RepP w F G (ZY x) v:=by
 unfold ZY;grind [RepP]
theorem yc{kt:TypeId}{z:PV}(h:Mz P t=some (kt,z)):∃e zv,P.underlying t=some (.map kt e)/\(∀w,(zeroValue e).run P w=.ok zv w)/\z=ZY (gV zv):=by
 unfold Mz at h;split at h
 .rename_i k e hu
  split at h
  .rename_i i hi
   split at h
   .simp_all [zF2,Prod.mk.injEq,zeroValue,typeInfo]
   .cases h
  .cases h
 .cases h
theorem Da(h:Rel w0 nA nt M G ι0 A w S ι a)(hd:∀d,o.dst=some d->d<nt){m:Operand}{c:Bool}
  (ho:o.op=.lookup t m x c) (hK:pk P t S.h (Gl.BH S m) (Gl.BH S x) c K):Does P w0 nA nt M G ι0 A k o w S a K:=by
 unfold pk at hK;split at hK
 .rename_i kt z id q e1 e2 e3
  split at hK
  .rename_i b kt' es hb
   obtain⟨rfl,hkd,hkp,hkk,hK⟩:=hK;obtain⟨l,hl⟩:=hkk;obtain⟨e,zv,hu,hz,rfl⟩:=yc e1;obtain⟨h0,_,Ar,cl,hh,mo⟩:=h.heap.map hb;have hm:=h.opd m;rw[e2]at hm;simp only[RepA]at hm;have hx:=Hu e3 hkp (h.opd x);have fin:∀{v:AV} {val:Value},lkV (ZY (gV zv)) c (mget es q)=v->(Instr.lookup t (.map (some (ι id).B)) (kV q) c).run P w=.ok val w->RepA w (Held S.h ι) G ι v val->(∀i,v.has i=true->A i)->Does P w0 nA nt M G ι0 A k o w S a K:=by
    intro v val hv hr hrep hn;refine ax h hd (v:=v) (val:=val) ?_ hrep hn (hv▸hK);simp_all [execOp,zD4]
   have tup:∀{y:PV} {u:Value} {bb:Bool},RepP w (Held S.h ι) G y u->RepA w (Held S.h ι) G ι (.tup [.p y,.p (.bool bb)]) (.tuple #[u,.bool bb]):=λ{y u bb} hy=>by
    grind [RepA,RepAL,RepP]
   rcases hkd.find w hl Ar.toList mo.keys with⟨g1,g2⟩|⟨j,e0,g1,g2,g3⟩
   .have hnone:mget es q=none:=by
     cases hg:mget es q with
     |none=>rfl
     |some y=>obtain⟨e',he',hk',_⟩:=mo.yes q y hg;grind
    have hrun:(Instr.lookup t (.map (some (ι id).B)) (kV q) c).run P w=.ok (if c then .tuple #[zv,.bool false]else zv) w:=by
     simp[Instr.lookup,zD2 hu,MapKept.run_getObj_map hh,hkd.check w _ hl,g1,hz,Result.andThen]
    cases c
    .exact fin (v:=.p (ZY (gV zv))) (val:=zv) (by rw[hnone];rfl) hrun (by grind [RepA,Gz,ov]) (λi hi=>by simp[AV.has]at hi)
    .exact fin (by rw[hnone];rfl) hrun (tup (Gz (ov zv))) (λi hi=>by simp[AV.has,AV.hasL]at hi)
   .have hmem:e0∈Ar.toList:=zF9 g2
    cases hg:mget es q with
    |none=>exact absurd g3 (mo.no q hg e0 hmem)
    |some y=>
     obtain⟨e',he',hk',hy⟩:=mo.yes q y hg;have hee:e'=e0:=by
      by_cases q1:e'=e0
      .exact q1
      .exfalso
       obtain⟨i,hi,hi'⟩:=zE7 he';obtain⟨j',hj,hj'⟩:=zE7 hmem;have pw:=List.pairwise_iff_getElem.1 mo.apart;grind
     subst hee;have hrun:(Instr.lookup t (.map (some (ι id).B)) (kV q) c).run P w=.ok (if c then .tuple #[e'.val,.bool true]else e'.val) w:=by
      simp[Instr.lookup,zD2 hu,MapKept.run_getObj_map hh,hkd.check w _ hl,g1,Result.andThen]
     cases c
     .exact fin (v:=.p y) (val:=e'.val) (by rw[hg];rfl) hrun (by grind [RepA]) (λi hi=>by simp[AV.has]at hi)
     .exact fin (by rw[hg];rfl) hrun (tup hy) (λi hi=>by simp[AV.has,AV.hasL]at hi)
  .exact hK.elim
 .exact hK.elim
theorem mget_put{q':PV}{x:PV}{es:List (PV×PV)}:(kV q=kV q'->mget ((q,x)::es) q'=some x)/\(kV q≠kV q'->mget ((q,x)::es) q'=mget es q'):=
 ⟨λe=>by simp[mget,e],λe=>by simp[mget,e]⟩
theorem tX(h:Rel w0 nA nt M G ι0 A w S ι a)(hd:∀d,o.dst=some d->d<nt){m:Operand}
  (ho:o.op=.mapUpdate t m x y\/o.op=.insert t m x y) (hK:mO P t S.h (Gl.BH S m) (Gl.BH S x) (Gl.BH S y) K):Does P w0 nA nt M G ι0 A k o w S a K:=by
 unfold mO at hK;split at hK
 .rename_i kt z id q e1 e2 e3
  split at hK
  .rename_i b kt' es hb
   obtain⟨rfl,hkd,hkp,hkk,hK⟩:=hK;have hkk':=hkk;obtain⟨l,hl⟩:=hkk;obtain⟨e,zv,hu,_,_⟩:=yc e1;obtain⟨yv,ws,rd,⟨hid,hk⟩,hf,_,hrd,hrep⟩:=s6 hK;have h1:=h.frz hf.frz;have hne:∀p∈ws,p.1≠id:=λp hp e=>hid (e▸hrd p hp);have hb1:hwsH S.h ws id=.map b (Iq P kt) es:=by grind [qT]
   obtain⟨h0,horg,Ar,cl,hh,mo⟩:=h1.heap.map hb1;have hm:=h.opd m;rw[e2]at hm;simp only[RepA]at hm;have hx:=Hu e3 hkp (h.opd x);have hy:RepP w (Held (hwsH S.h ws) ι) G yv (a.eval y):=hrep h.heap hf.frz (sm hf) (h.opd y);obtain⟨A',cl',hrun,hput⟩:∃A' cl',(Instr.mapUpdate t (.map (some (ι id).B)) (kV q) (a.eval y)).run P w=.ok () {w with heap:=w.heap.setIfInBounds (ι id).B (.map A' cl')}/\
     (∀{w1:World} {F1:Nat->Prop},(∀z v,RepP w (Held (hwsH S.h ws) ι) G z v->RepP w1 F1 G z v)->MapOk w1 F1 G (Iq P kt) ((q,yv)::es) A'):=by
    rcases hkd.find w hl Ar.toList mo.keys with⟨g1,g2⟩|⟨j,e0,g1,g2,g3⟩
    .refine⟨Ar.push ⟨kV q,a.eval y,cl⟩,cl+1,by
      simp[Instr.mapUpdate,zD2 hu,MapKept.run_getObj_map hh,hkd.check w false hl,g1,MapKept.run_setObj_map _ hh,Result.andThen],λ{w1 F1} tr=> ?_⟩
     refine⟨λe' he'=> ?_, ?_,λq' hq' e' he'=> ?_,λq' x' hq'=> ?_⟩
     .simp only[Array.toList_push,zB3,zB7]at he'
      rcases he' with he'|rfl
      .exact mo.keys e' he'
      .exact hkk'
     .simp only[Array.toList_push,List.pairwise_append,zF6,zB7,List.not_mem_nil,false_implies,implies_true,true_and,List.Pairwise.nil,and_true]
      exact⟨mo.apart,λe' he' e2 h2=>by grind⟩
     .simp only[Array.toList_push,zB3,zB7]at he'
      by_cases hqq:kV q=kV q'
      .grind [mget_put]
      .rw[mget_put.2 hqq]at hq'
       rcases he' with he'|rfl
       .exact mo.no q' hq' e' he'
       .exact hqq
     .by_cases hqq:kV q=kV q'
      .rw[mget_put.1 hqq]at hq'
       cases hq'
       exact⟨⟨kV q,a.eval y,cl⟩,by simp,hqq,tr _ _ hy⟩
      .rw[mget_put.2 hqq]at hq'
       obtain⟨e',he',hk',hr'⟩:=mo.yes q' x' hq';grind
    .obtain⟨hj,hj'⟩:=zB4.1 g2
     have hjs:j<Ar.size:=by simpa using hj
     have hAj:Ar[j]? =some e0:=by grind
     have stay:=hkd.stays w hl;have hmod:(Ar.modify j λe=>{e with key:=kV q,val:=a.eval y}).toList=Ar.toList.set j {e0 with key:=kV q,val:=a.eval y}:=by
      rw[Array.toList_modify];apply zI7;grind
     refine⟨Ar.modify j λe=>{e with key:=kV q,val:=a.eval y},cl,by
      simp[Instr.mapUpdate,zD2 hu,MapKept.run_getObj_map hh,hkd.check w false hl,g1,MapKept.run_setObj_map _ hh,Result.andThen,hAj,g3,stay],λ{w1 F1} tr=> ?_⟩
     have mem:∀e',e'∈Ar.toList.set j {e0 with key:=kV q,val:=a.eval y}->e'={e0 with key:=kV q,val:=a.eval y}\/(e'∈Ar.toList/\e'.key≠kV q):=λe' he'=>by
      obtain⟨i,hi,hi'⟩:=zE7 he';simp only[zI1]at hi;rw[List.getElem_set]at hi';by_cases hij:j=i
      .grind
      .rw[zA8 hij]at hi'
       refine .inr ⟨hi'▸List.getElem_mem _,λhkk=> ?_⟩;have pw:=List.pairwise_iff_getElem.1 mo.apart;grind
     refine⟨λe' he'=> ?_, ?_,λq' hq' e' he'=> ?_,λq' x' hq'=> ?_⟩
     .rw[hmod]at he'
      rcases mem e' he' with rfl|⟨he',_⟩
      .exact hkk'
      .exact mo.keys e' he'
     .rw[hmod,List.pairwise_iff_getElem]
      intro i i' hi hi' hlt;simp only[zI1]at hi hi';have pw:=List.pairwise_iff_getElem.1 mo.apart i i' hi hi' hlt;grind
     .rw[hmod]at he'
      by_cases hqq:kV q=kV q'
      .grind [mget_put]
      .rw[mget_put.2 hqq]at hq'
       rcases mem e' he' with rfl|⟨he',_⟩
       .exact hqq
       .exact mo.no q' hq' e' he'
     .by_cases hqq:kV q=kV q'
      .rw[mget_put.1 hqq]at hq'
       cases hq'
       refine⟨{e0 with key:=kV q,val:=a.eval y},by grind [List.getElem?_set_self],hqq,tr _ _ hy⟩
      .rw[mget_put.2 hqq]at hq'
       obtain⟨e',he',hk',hr'⟩:=mo.yes q' x' hq';refine⟨e', ?_,hk',tr _ _ hr'⟩;rw[hmod];obtain⟨i,hi,hi'⟩:=zE7 he';have hij:j≠i:=by
        grind
       have:(Ar.toList.set j {e0 with key:=kV q,val:=a.eval y})[i]? =some e':=by
        grind
       grind
   intro Kc Qc next
   let w2:World:={w with heap:=w.heap.setIfInBounds (ι id).B (.map A' cl')};have hset:=MapKept.heap_set (o':=Obj.map A' cl') hh;have oth:∀B,B≠(ι id).B->w2.heap[B]? =w.heap[B]? :=λB hB=>hset.2 B hB;have hown:owns (hwsH S.h ws id) (ι id) (ι id).B:=by rw[hb1];exact⟨h0,rfl⟩
   obtain⟨ok,hh2,st⟩:=h1.heap.writeB (w':=w2) (id:=id) (k:=id) (.inl rfl) (b:=.map b (Iq P kt) ((q,yv)::es)) (l:=ι id) (λB ho=>oth B λe=>ho (e▸hown)) (λB ho=>by grind [owns])
    (λst=>⟨h0,horg,A',cl',hset.1,hput λz v hz=>RepP.tr st (λ_ _ _ h=>h) _ _ hz⟩)
   have eL:aE ι id (ι id)=ι:=kb;have eH:updH (updH (hwsH S.h ws) id .dead) id (.map b (Iq P kt) ((q,yv)::es))=hwsH S.h (ws++[(id,.map b (Iq P kt) ((q,yv)::es))]):=by
    grind [bO,updH,hwsH]
   rw[eL,eH]at ok;rw[eL,eH]at st;have hkeep:Keep w0 w2 M:=by
    have k0:=h1.keep;refine⟨k0.os,k0.tape,k0.output,by simpa[w2]using k0.size,λB hB hM=> ?_,k0.drawn⟩;have hne:B≠(ι id).B:=by
     rintro rfl;rcases horg with⟨q1,_⟩|⟨_,q1⟩
     .omega
     .exact hM q1
    rw[oth B hne];exact k0.block B hB hM
   have hA:A id:=h.opd_named m id (by rw[e2];simp[AV.has]);have h2:=h1.stepK (A':=gh A k) (λi hi=>.inl hi) hkeep ok st (λi _=>LocEq.refl _) (λi hi=>by
    have hni:i≠id:=λe=>hi (.inl (e▸hA));rw[bO];simp only[hwsH,hni,zE3];exact h1.alloc i λq=>hi (.inl q))
   have hr:(execOp a.eval o).run P w=.ok .skip w2:=by
    rcases ho with ho|ho<;>simp only[execOp,ho,hm,hx,zD4,hrun]<;>rfl
   refine nW hr (next _ _ _ ι hk ?_);rw[bV];exact h2.put o.dst hd (by simp[RepA,RepP]) (λi hi=>by simp[AV.has]at hi)
  .exact hK.elim
 .exact hK.elim
end
end Go.Gl
