/-
  What the functions compute, and what the law asks of it: texts joined. Conditions: those that each lemma names.
-/
import Derived.Test.YtjimcmbfljdelaaGreatDoorA0
set_option linter.unusedSimpArgs false
set_option linter.unusedVariables false
set_option maxRecDepth 20000
set_option linter.unusedSectionVars false
set_option maxHeartbeats 16000000
variable{w w':Go.World}{F F' G G' M:Nat->Prop}{B:Nat}{a l:List Int}{b:Go.Gl.Blk}{P:Go.Program}{f:Go.FuncId}{args:List Go.Gl.PV}{v v0:Go.Value}{vs:List Go.Value}{m:Bool}
namespace Go.Gl
open Go Go.Proofs
variable [Amb]
def Own(w:World)(b:Blk)(l:Loc):Prop:=okB w (λ_=>False) (λ_=>True) (λ_ _=>True) b l
def bI(a:List Int):Blk:=.live true (a.map (PV.int .i64))
theorem Gi{o:Nat}(h:RepC w F G B o (l.map (PV.int .i64))):RepC w F' G' B o (l.map (PV.int .i64)):=by
 rw[aY]at h |-
 intro j x hj;obtain⟨v,h1,h2,h3⟩:=h j x hj;rw[zA5]at hj;cases e:l[j]? with
 |none=>rw[e]at hj;cases hj
 |some n=>rw[e]at hj;cases hj;exact⟨v,h1,h2,by simpa only[RepP]using h3⟩
theorem QD{O O':Nat->Prop}{l:Loc}(h:rowOk w F G O l (a.map (PV.int .i64)))(hO:l.cap≠0->O' l.B):rowOk w F' G' O' l (a.map (PV.int .i64)):=by
 obtain⟨h1,h2,h3⟩:=h;refine⟨h1,h2, ?_⟩;by_cases h0:l.cap=0
 .exact .inl h0
 .exact h3.imp id λq=>⟨q.1,Gi q.2.1,hO h0⟩
class FreeB(b:Blk):Prop where
 h:∀{w:World} {F F' G G':Nat->Prop} {O O':Bool->Nat->Prop} {l:Loc},okB w F G O b l->(∀B,owns b l B->O' true B)->okB w F' G' O' b l
instance {a:List Int}:FreeB (bI a):=⟨λh hO=>QD h λh0=>hO _ ⟨h0,rfl⟩⟩
theorem Own.lt{l:Loc}(h:Own w b l)(ho:owns b l B):B<w.heap.size:=okB.lt h ho
theorem Own.same{l:Loc}(h:Own w b l)(hk:∀B,B<w.heap.size->w'.heap[B]? =w.heap[B]?):Own w' b l:=
 okB.tr (λB o v _ hv=>⟨by rw[cell?_same (hk B (cell?_lt hv))];exact hv,id⟩) (λ_ _ _ h=>h) (λB ho=>hk B (h.lt ho)) (λ_ _ _ h=>h) h
theorem Own.move{l:Loc}[FreeB b](h:Own w b l)(hk:∀B,owns b l B->w'.heap[B]? =w.heap[B]?):Own w' b l:=
 okB.tr (F:=λB=>¬owns b l B) (G:=λ_=>True) (O:=λ_ _=>True) (λB o v hF hv=>⟨by rw[cell?_same (hk B (Classical.not_not.1 hF))];exact hv,id⟩) (λ_ _ _ h=>h) hk (λ_ _ _ h=>h) (FreeB.h h λ_ _=>trivial)
theorem Fun.look{r:PV}(hf:Fun P f args [r])(hr1:∀n,imp1 n r=.p r)(hr2:imp args.length r=imp1 args.length r)(hr3:∀(w:World) (F G:Nat->Prop) (v:Value),RepP w F G r v->v=v0)(w:World)(ha:∀B o,Amb.tb B=some o->w.heap[B]? =some o)(hr:RepL w (λ_=>False) (λ_=>True) args vs):
  Calls P f ⟨vs⟩ w λe w'=>e=.returned v0/\Keep w w' (λ_=>False):=by
 obtain⟨_,_,_,_,h⟩:=hf;have dead:∀j,bH (args.map .pv) j=.dead:=λj=>by
  unfold bH;rw[zA5];cases args[j]? <;>rfl
 have hno:∀(ι:Nat->Loc) B,¬Held (bH (args.map .pv)) ι B:=by
  rintro ι B ⟨id,ho⟩;rw[dead]at ho;exact ho
 have hno2:fQ (args.map .pv) (λ_=>⟨0,0,0,0,bC⟩)=λ_=>False:=funext λB=>propext ⟨λh=>hno _ _ h,λh=>h.elim⟩;have hrep:∀(l:List PV) (vs:List Value) (k:Nat),RepL w (λ_=>False) (λ_=>True) l vs->RepAL w (Held (bH (args.map .pv)) λ_=>⟨0,0,0,0,bC⟩) (λ_=>True) (λ_=>⟨0,0,0,0,bC⟩) (bA k (l.map .pv)) vs:=by
  intro l
  induction l with
  |nil=>intro vs k h;simpa[bA,RepAL,RepL]using h
  |cons x l ih=>
   intro vs k h;simp only[RepL]at h;obtain⟨v,vs',rfl,h1,h2⟩:=h;simp only[zC3,bA,Arg.av,RepAL,RepA];exact⟨v,vs',rfl,RepP.tr (F:=λ_=>False) (λ_ _ _ _ hv=>⟨hv,hno _ _⟩) (λ_ _ _ h=>h) _ _ h1,ih _ _ h2⟩
 refine(h w (λ_=>True) (λ_=>⟨0,0,0,0,bC⟩) vs ⟨ha,λB o _ hB=>hno _ B hB⟩ (λ_ _=>trivial) ⟨?_, ?_⟩ (hrep _ _ _ hr)).mono ?_
 .intro id;rw[dead];trivial
 .intro id _ B ho;rw[dead]at ho;exact ho.elim
 .rintro e w' ⟨v,ι',rfl,_,hk,_,hv⟩
  rw[hno2]at hk;simp only[impAll,zB2,hr2,hr1,RepA]at hv;exact⟨by rw[hr3 _ _ _ v hv],hk⟩
theorem Fun.lookB{b:Bool}(hf:Fun P f args [.bool b])(w:World)(ha:∀B o,Amb.tb B=some o->w.heap[B]? =some o)(hr:RepL w (λ_=>False) (λ_=>True) args vs):
  Calls P f ⟨vs⟩ w λe w'=>e=.returned (.bool b)/\Keep w w' (λ_=>False):=
 Fun.look hf (λ_=>rfl) rfl (λ_ _ _ v h=>by simpa only[RepP]using h) w ha hr
theorem IC{l:Loc}{n:Nat}(h:tT l n v):∃a,v=.slice a n l.cap:=by
 obtain⟨a,e,_⟩:=h;exact⟨a,e⟩
theorem Keep.same(hk:Keep w w' (λ_=>False)):∀B,B<w.heap.size->w'.heap[B]? =w.heap[B]? :=λB hB=>hk.block B hB (λq=>q)
theorem gW{M':Nat->Prop}(h:Keep w w' M)(hM:∀x,M x->M' x):Keep w w' M':=
 ⟨h.os,h.tape,h.output,h.size,λk hk hn=>h.block k hk λq=>hn (hM k q),h.drawn⟩
theorem Nb(h:Keep w w' M)(hM:∀x,M x->w.heap.size<=x):Keep w w' (λ_=>False):=
 ⟨h.os,h.tape,h.output,h.size,λk hk _=>h.block k hk λq=>by have:=hM k q;omega,h.drawn⟩
end Go.Gl
namespace Go.Gl
open Go Go.Proofs Go.RowKit Go.Lib
variable [Amb]
theorem BE{O:Bool->Nat->Prop}{l:Loc}(h:okB w F G O (.live m (a.map (PV.int .i64))) l):Own w (bI a) l/\∀B,owns (bI a) l B->O m B:=
 ⟨FreeB.h (b:=bI a) (O:=λ_=>O m) (show okB w F G (λ_=>O m) (bI a) l from h) λ_ _=>trivial,λB ⟨h0,e⟩=>by
  rcases h.2.2 with q|q
  .exact absurd q h0
  .exact e▸q.2.2⟩
theorem tG:∀j,bH (args.map .pv) j=.dead:=λj=>by
 unfold bH;rw[zA5];cases args[j]? <;>rfl
theorem LE{ι:Nat->Loc}(hF:∀B,¬F' B):∀(l:List PV) (vs:List Value) (k:Nat),RepL w (λ_=>False) (λ_=>True) l vs->RepAL w F' (λ_=>True) ι (bA k (l.map .pv)) vs:=by
 intro l
 induction l with
 |nil=>intro vs k h;simpa[bA,RepAL,RepL]using h
 |cons x l ih=>
  intro vs k h;simp only[RepL]at h;obtain⟨v,vs',rfl,h1,h2⟩:=h;simp only[zC3,bA,Arg.av,RepAL,RepA];exact⟨v,vs',rfl,RepP.tr (F:=λ_=>False) (λ_ _ _ _ hv=>⟨hv,hF _⟩) (λ_ _ _ h=>h) _ _ h1,ih _ _ h2⟩
theorem Fun.at{res:List PV}(hf:Fun P f args res)(w:World)(ha:∀B o,Amb.tb B=some o->w.heap[B]? =some o)(hr:RepL w (λ_=>False) (λ_=>True) args vs):
  Calls P f ⟨vs⟩ w λe w'=>∃v ι',e=.returned v/\Keep w w' (λ_=>False)/\HeapOk w' w.heap.size (λ_=>False) (λ_=>True) (aZ false (args.map .pv) [] res) ι'/\RepA w' (Held (aZ false (args.map .pv) [] res) ι') (λ_=>True) ι' (impAll args.length res) v:=by
 obtain⟨_,_,_,_,h⟩:=hf;have hno:∀(ι:Nat->Loc) B,¬Held (bH (args.map .pv)) ι B:=by
  rintro ι B ⟨id,ho⟩;rw[tG]at ho;exact ho
 have hno2:fQ (args.map .pv) (λ_=>⟨0,0,0,0,bC⟩)=λ_=>False:=funext λB=>propext ⟨λh=>hno _ _ h,λh=>h.elim⟩;refine(h w (λ_=>True) (λ_=>⟨0,0,0,0,bC⟩) vs ⟨ha,λB o _ hB=>hno _ B hB⟩ (λ_ _=>trivial) ⟨?_, ?_⟩ (LE (hno _) _ _ _ hr)).mono ?_
 .intro id;rw[tG];trivial
 .intro id _ B ho;rw[tG]at ho;exact ho.elim
 .rintro e w' ⟨v,ι',rfl,_,hk,ok,hv⟩
  rw[hno2]at hk ok;rw[zB2]at hv;exact⟨v,ι',rfl,hk,ok,hv⟩
theorem Fun.row(hf:Fun P f args [.sl .own (a.map (PV.int .i64))])(hp:aZ false (args.map .pv) [] [.sl .own (a.map (PV.int .i64))] args.length=.live false (a.map (PV.int .i64)))(w:World)(ha:∀B o,Amb.tb B=some o->w.heap[B]? =some o)(hr:RepL w (λ_=>False) (λ_=>True) args vs):
  Calls P f ⟨vs⟩ w λe w'=>∃v l,e=.returned v/\tT l a.length v/\Own w' (bI a) l/\(∀B,owns (bI a) l B->w.heap.size<=B)/\Keep w w' (λ_=>False):=by
 refine(Fun.at hf w ha hr).mono ?_;rintro e w' ⟨v,ι',rfl,hk,ok,hv⟩;have hb:=ok.ok args.length;rw[hp]at hb;obtain⟨o1,o2⟩:=BE hb;simp only[impAll,imp,RepA,zB2]at hv;obtain⟨x,cap,rfl,c1,c2,c3,c4⟩:=hv;refine⟨_,ι' args.length,rfl,⟨x,by simp at c2 |-;rw[c2],c4.imp (λh=>by simp at c2;omega) λh=>by simpa using h⟩,o1,λB ho=> ?_,hk⟩;rcases o2 B ho with q|q
 .exact q.1
 .exact q.2.elim
end Go.Gl
