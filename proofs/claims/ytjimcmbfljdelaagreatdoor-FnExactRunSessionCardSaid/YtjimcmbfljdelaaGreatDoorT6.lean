/-
  What the functions compute, and what the law asks of it: texts joined. Conditions: those that each lemma names.
-/
import Derived.Test.YtjimcmbfljdelaaGreatDoorA0
import Derived.Test.YtjimcmbfljdelaaGreatDoorShelfU
import Derived.Deep.Draws
import Derived.Shelf.Spec.SlicesInsertGrow
set_option linter.unusedSimpArgs false
set_option linter.unusedVariables false
set_option maxRecDepth 20000
set_option linter.unusedSectionVars false
set_option maxHeartbeats 16000000
variable{w w':Go.World}{b:Nat}{L:List Int}{f:Go.FuncId}{m0:Bool}{P:Go.Program}{xs ys:List Go.Value}
namespace Go.Gl
open Go Go.Proofs Go.Shelf Go.RowKit Go.Lib
variable [Amb]
structure Tnd(w w':World)(b:Nat):Prop where
 os:w'.os=w.os
 tape:w'.tape=w.tape
 output:w'.output=w.output
 size:w.heap.size<=w'.heap.size
 drawn:w.drawn<=w'.drawn
 other:∀k,k<w.heap.size->k≠b->w'.heap[k]? =w.heap[k]?
 row:∀cs E fr,w.heap[b]? =some (.cells cs E fr)->∃cs',w'.heap[b]? =some (.cells cs' E fr)/\cs'.size=cs.size
theorem Tnd.trans{w'':World}(h:Tnd w w' b)(k:Tnd w' w'' b):Tnd w w'' b:=
 ⟨k.os.trans h.os,k.tape.trans h.tape,k.output.trans h.output,zE0 h.size k.size,zE0 h.drawn k.drawn,λi hi hne=>(k.other i (Nat.lt_of_lt_of_le hi h.size) hne).trans (h.other i hi hne),λcs E fr hc=>by
  obtain⟨c1,h1,h2⟩:=h.row cs E fr hc;obtain⟨c2,h3,h4⟩:=k.row c1 E fr h1;exact⟨c2,h3,h4.trans h2⟩⟩
theorem Tnd.drewN(w:World)(b n:Nat):Tnd w (w.drewN n) b:=⟨rfl,rfl,rfl,zB1 _,Nat.le_add_right _ _,λ_ _ _=>rfl,λcs _ _ h=>⟨cs,h,rfl⟩⟩
theorem Tnd.drew(w:World)(b:Nat):Tnd w w.drew b:=⟨rfl,rfl,rfl,zB1 _,Nat.le_succ _,λ_ _ _=>rfl,λcs _ _ h=>⟨cs,h,rfl⟩⟩
theorem Tnd.setCell(w:World)(b o:Nat)(v:Value):Tnd w (w.setCell ⟨b,o,none⟩ v) b:=by
 refine⟨rfl,rfl,rfl,by simp[World.setCell],zB1 _,λk hk hne=> ?_,λcs E fr h=> ?_⟩
 .simp only[World.setCell]
  rw[Array.getElem?_modify,zA8 (Ne.symm hne)]
 .refine⟨cs.setIfInBounds o v, ?_,by simp⟩
  simp only[World.setCell];rw[Array.getElem?_modify,zB0 rfl,h];rfl
theorem Tnd.setCells(b:Nat):∀(vs:List Value) (w:World) (o:Nat),Tnd w (w.setCells b o vs) b
 |[],w,o=>Tnd.drewN w b 0
 |v::vs,w,o=>(Tnd.setCell w b o v).trans (Tnd.setCells b vs _ (o+1))
theorem Tnd.alloc(w:World)(o:Obj):Tnd w (w.alloc o) w.heap.size:=by
 have e:(w.alloc o).heap=w.heap.push o:=rfl;exact⟨rfl,rfl,rfl,by rw[e];simp,zB1 _,λk hk hne=>by rw[e,Array.getElem?_push,zA8 (by omega)],λcs E fr h=>by rw[Array.getElem?_eq_none (zB1 _)]at h;cases h⟩
theorem Tnd.grow(w:World)(b:Nat)(hb:b<w.heap.size)(os:Array Obj):Tnd w (Go.Sort.grow w os) b:=
 ⟨rfl,rfl,rfl,by simp[Go.Sort.grow],zB1 _,λk hk _=>by simp only[Go.Sort.grow];rw[Array.getElem?_append_left hk],λcs E fr h=>⟨cs,by simp only[Go.Sort.grow];rw[Array.getElem?_append_left hb];exact h,rfl⟩⟩
theorem Tnd.putRow{α:Type}[Inhabited α](w:World)(b off:Nat)(enc:α->Value)(d:Array α):Tnd w (Go.Sort.putRow enc w b off d) b:=
 ⟨rfl,rfl,rfl,by simp[Go.Sort.putRow,Go.Sort.mapBlock],zB1 _,λk hk hne=>by simp only[Go.Sort.putRow,Go.Sort.mapBlock];rw[Array.getElem?_modify,zA8 (Ne.symm hne)],λcs E fr h=>
  ⟨_,by simp only[Go.Sort.putRow,Go.Sort.mapBlock];rw[Array.getElem?_modify,zB0 rfl,h];rfl,by simp[Go.Sort.putCells]⟩⟩
theorem qj(w:World)(B o:Nat):w.cell? ⟨B,o,none⟩=match w.heap[B]? with|some (.cells c _ _)=>c[o]? |_=>none:=rfl
theorem Co{j:Nat}{x:PV}(h:(L.map (PV.int .i64))[j]? =some x):∃n,L[j]? =some n/\x=.int .i64 n:=by
 rw[zA5]at h;cases e:L[j]? with
 |none=>rw[e]at h;cases h
 |some n=>rw[e]at h;exact⟨n,rfl,by simpa using h.symm⟩
def OY(w:World)(L:List Int)(a:Option Addr)(B off cap:Nat):Prop:=
 L.length<=cap/\cap<=maxLen/\(cap=0\/a=some ⟨B,off,none⟩/\∃cs E lo hi,w.heap[B]? =some (.cells cs E (lo,hi))/\off+cap<=cs.size/\hi<=lo/\∀(j:Nat) (n:Int),L[j]? =some n->cs[off+j]? =some (Value.int .i64 n))
theorem Mt{fn:Func}(hf:Tryz.prog.funcs[f]? =some fn)(hb:fn.body.isSome=true)(hn:(fn.name== "runtime.NumGoroutine")=false)(L R:List Int)(hR:R.length=L.length)
  (key:∀(w:World) (a:Option Addr) (B off cap:Nat),OY w L a B off cap->Calls Tryz.prog f #[.slice a L.length cap] w λe w'=>e=.returned (.tuple #[])/\(cap=0/\w'=w\/cap≠0/\Tnd w w' B/\∀(j:Nat) (n:Int),R[j]? =some n->w'.cell? ⟨B,off+j,none⟩=some (Value.int .i64 n))):
  CallT Tryz.prog false f [.mu false (L.map (PV.int .i64))] [some (R.map (PV.int .i64))] []:=by
 let ag:List Arg:=[.mu false (L.map (PV.int .i64))];have eB:∀Z:List Int,xx true (List.map (PV.int .i64) Z)=.live true (List.map (PV.int .i64) Z):=λZ=>dK (NDl.h (c:=List.map (PV.int .i64) Z));have eL:xy (List.map (PV.int .i64) L)=L.length:=by rw[th,zB2]
 have eA:∀j,bH ag j=if j=0 then .live true (List.map (PV.int .i64) L)else .dead:=λj=>by
  match j with
  |0=>exact eB L
  |j+1=>rfl
 have eP:∀j,aZ false ag [some (R.map (PV.int .i64))] [] j=if j=0 then .live true (R.map (PV.int .i64))else .dead:=λj=>by
  match j with
  |0=>exact eB R
  |j+1=>rfl
 refine⟨⟨_,hf,hb,hn⟩,rfl,rfl,by simp only[zH7,List.all_nil,zG1];exact dv (λ_=>rfl) _, ?_⟩;intro w G ι vs hamb hG ok hv;simp only[bA,Arg.av,RepAL,RepA,eL]at hv;obtain⟨v0,vs1,rfl,⟨a,cap,rfl,hle,hcap,hmax,hloc⟩,rfl⟩:=hv;have hlive:=ok.ok 0;rw[show bH _ 0=_ from eA 0,zB0 rfl]at hlive;obtain⟨g1,g2,g3⟩:=hlive;rw[zB2]at g1;have hc:cap=(ι 0).cap:=by omega
 have heldA:∀B,Held (bH ag) ι B↔(ι 0).cap≠0/\B=(ι 0).B:=λB=>by
  constructor
  .rintro⟨id,ho⟩
   rw[eA]at ho;split at ho
   .rename_i e;subst e;exact⟨ho.1,ho.2.symm⟩
   .exact ho.elim
  .rintro⟨h0,rfl⟩
   exact⟨0,by rw[eA,zB0 rfl];exact⟨h0,rfl⟩⟩
 have hlies:OY w L a (ι 0).B (ι 0).off cap:=by
  refine⟨hle,by omega, ?_⟩;rcases g3 with g3|⟨⟨cs,E,lo,hi,hcell,hfit,hfr⟩,hrep,_⟩
  .left;omega
  .rcases hloc with h|h
   .exact .inl h
   .refine .inr ⟨by simpa using h,cs,E,lo,hi,hcell,by omega,hfr.elim id λh=>(by cases h.1),λj n hj=> ?_⟩
    rw[aY]at hrep;obtain⟨u,u1,_,u3⟩:=hrep j (.int .i64 n) (by rw[zA5,hj];rfl);simp only[RepP]at u3;rw[qj,hcell]at u1;rw[u3]at u1;exact u1
 refine(key w a (ι 0).B (ι 0).off cap hlies).mono ?_;rintro e w' ⟨rfl,hT⟩;have hK:Keep w w' (fQ ag ι):=by
  rcases hT with⟨_,rfl⟩|⟨h0,T,_⟩
  .exact⟨rfl,rfl,rfl,zB1 _,λ_ _ _=>rfl,λ_=>zB1 _⟩
  .exact⟨T.os,T.tape,T.output,T.size,λj hj hM=>T.other j hj λe=>hM ((heldA j).2 ⟨by omega,e⟩),λ_=>T.drawn⟩
 refine⟨.tuple #[],ι,rfl,λj _=>LocEq.refl _,hK,⟨λid=> ?_,λid id' B' ho ho'=> ?_⟩, ?_⟩
 .rw[show aZ _ _ _ _ id=_ from eP id]
  split
  .rename_i e
   subst e;refine⟨by rw[zB2];omega,g2, ?_⟩;by_cases h0:(ι 0).cap=0
   .exact .inl h0
   right;rcases g3 with g3|⟨⟨cs,E,lo,hi,hcell,hfit,hfr⟩,_,horg⟩
   .exact absurd g3 h0
   rcases hT with⟨q,_⟩|⟨_,T,hx⟩
   .omega
   obtain⟨cs',q1,q2⟩:=T.row cs E (lo,hi) hcell;refine⟨⟨cs',E,lo,hi,q1,by omega,by rw[q2];exact hfr⟩, ?_,horg⟩;rw[aY];intro j x hj;obtain⟨n,hn,rfl⟩:=Co hj;exact⟨.int .i64 n,hx j n hn,rfl,by simp only[RepP]⟩
  .trivial
 .rw[show aZ _ _ _ _ id=_ from eP id]at ho
  rw[show aZ _ _ _ _ id'=_ from eP id']at ho';split at ho
  .split at ho'
   .omega
   .exact ho'.elim
  .exact ho.elim
 .show RepA w' _ G ι (impAll 1 []) _
  simp only[impAll,imps,RepA,RepAL];exact⟨[],rfl,rfl⟩
def OW(w w':World)(b off c:Nat)(rs:List Value)(e:Ending):Prop:=
 ∃B o k,e=.returned (.slice (some ⟨B,o,none⟩) rs.length k)/\rs.length<=k/\k<=maxLen/\k≠0/\Tnd w w' B/\(∃C E lo hi,w'.heap[B]? =some (.cells C E (lo,hi))/\o+k<=C.size/\hi<=lo)/\
  (c≠0/\B=b/\o=off/\k=c\/B=w.heap.size)/\∀(j:Nat) v,rs[j]? =some v->w'.cell? ⟨B,o+j,none⟩=some v
theorem PJ{fn:Func}(hf:Tryz.prog.funcs[f]? =some fn)(hb:fn.body.isSome=true)(hn:(fn.name== "runtime.NumGoroutine")=false)(L v R:List Int)(x:Int)(hv1:1<=v.length)
  (key:∀(w:World) (a:Option Addr) (B off cap vb voff vc:Nat),OY w L a B off cap->(cap≠0->vb≠B)->(∀(j:Nat) u,(v.map (Value.int .i64))[j]? =some u->w.cell? ⟨vb,voff+j,none⟩=some u)->Calls Tryz.prog f #[.slice a L.length cap,.int .i64 x,.slice (some ⟨vb,voff,none⟩) v.length vc] w λe w'=>OW w w' B off cap (R.map (Value.int .i64)) e):
  CallT Tryz.prog true f [.mu false (L.map (PV.int .i64)),.pv (.int .i64 x),.pv (.sl (.lent m0) (v.map (PV.int .i64)))] [none,none,none] [.sl .own (R.map (PV.int .i64))]:=by
 let ag:List Arg:=[.mu false (L.map (PV.int .i64)),.pv (.int .i64 x),.pv (.sl (.lent m0) (v.map (PV.int .i64)))];have eB:∀Z:List Int,xx true (List.map (PV.int .i64) Z)=.live true (List.map (PV.int .i64) Z):=λZ=>dK (NDl.h (c:=List.map (PV.int .i64) Z));have eL:xy (List.map (PV.int .i64) L)=L.length:=by rw[th,zB2]
 have eA:∀j,bH ag j=if j=0 then .live true (List.map (PV.int .i64) L)else .dead:=λj=>by
  match j with
  |0=>exact eB L
  |1=>rfl
  |2=>rfl
  |j+3=>rfl
 have eP:∀j,aZ true ag [none,none,none] [.sl .own (R.map (PV.int .i64))] j=if j=3 then .live true (R.map (PV.int .i64))else .dead:=λj=>by
  match j with
  |0=>rfl
  |1=>rfl
  |2=>rfl
  |3=>rfl
  |j+4=>rfl
 refine⟨⟨_,hf,hb,hn⟩, ?_,rfl,rfl, ?_⟩
 .simp only[noRoL,noRo,zG1];exact dv (λ_=>rfl) _
 intro w G ι vs hamb hG ok hv;simp only[bA,Arg.av,RepAL,RepA,eL]at hv;obtain⟨v0,vs1,rfl,⟨a,cap,rfl,hle,hcap,hmax,hloc⟩,v1,vs2,rfl,hq1,v2,vs3,rfl,hq2,rfl⟩:=hv;simp only[RepP]at hq1 hq2;subst hq1;obtain⟨a3,c3,rfl,k1,k2,_,k4⟩:=hq2;have hlive:=ok.ok 0;rw[show bH _ 0=_ from eA 0,zB0 rfl]at hlive;obtain⟨g1,g2,g3⟩:=hlive;rw[zB2]at g1;have hc:cap=(ι 0).cap:=by omega
 have heldA:∀B,Held (bH ag) ι B↔(ι 0).cap≠0/\B=(ι 0).B:=λB=>by
  constructor
  .rintro⟨id,ho⟩
   rw[eA]at ho;split at ho
   .rename_i e;subst e;exact⟨ho.1,ho.2.symm⟩
   .exact ho.elim
  .rintro⟨h0,rfl⟩
   exact⟨0,by rw[eA,zB0 rfl];exact⟨h0,rfl⟩⟩
 have hlies:OY w L a (ι 0).B (ι 0).off cap:=by
  refine⟨hle,by omega, ?_⟩;rcases g3 with g3|⟨⟨cs,E,lo,hi,hcell,hfit,hfr⟩,hrep,_⟩
  .left;omega
  .rcases hloc with h|h
   .exact .inl h
   .refine .inr ⟨by simpa using h,cs,E,lo,hi,hcell,by omega,hfr.elim id λh=>(by cases h.1),λj n hj=> ?_⟩
    rw[aY]at hrep;obtain⟨u,u1,_,u3⟩:=hrep j (.int .i64 n) (by rw[zA5,hj];rfl);simp only[RepP]at u3;rw[qj,hcell]at u1;rw[u3]at u1;exact u1
 have hvne:v.map (PV.int .i64)≠[]:=by intro e;have:=zB5 List.length e;simp at this;simp[this]at hv1
 rcases k4 with k4|⟨vb,voff,rfl,k5,_,k6⟩
 .exact absurd k4 hvne
 rw[aY]at k6;have hvs:∀(j:Nat) u,(v.map (Value.int .i64))[j]? =some u->w.cell? ⟨vb,voff+j,none⟩=some u:=λj u h=>by
  rw[zA5]at h;cases e:v[j]? with
  |none=>rw[e]at h;cases h
  |some n=>
   rw[e]at h;cases h
   obtain⟨u,u1,_,u3⟩:=k6 j (.int .i64 n) (by rw[zA5,e];rfl);simp only[RepP]at u3;rw[u1,u3]
 rw[zB2];refine(key w a (ι 0).B (ι 0).off cap vb voff c3 hlies (λh0 e=>k5 ((heldA _).2 ⟨by omega,e⟩)) hvs).mono ?_;rintro e w' ⟨B,o,k,rfl,r1,r2,r0,r3,⟨C,E',lo',hi2,r4,r5,r6⟩,r7,r8⟩;rw[zB2]at r1;let ι':Nat->Loc:=aE ι 3 ⟨B,o,k,0,bC⟩;have hι:ι' 3=⟨B,o,k,0,bC⟩:=by simp only[ι',aE,zH3]
 have hK:Keep w w' (fQ ag ι):=⟨r3.os,r3.tape,r3.output,r3.size,λj hj hM=>r3.other j hj λe=>by
  rcases r7 with⟨h0,h,_⟩|h
  .exact hM ((heldA j).2 ⟨by omega,e.trans h⟩)
  .omega,λ_=>r3.drawn⟩
 refine⟨_,ι',rfl,λj hj=>LocEq.of_eq (by simp only[ι',aE];rw[zA8 (by simp at hj;omega)]),hK,⟨λid=> ?_,λid id' B' ho ho'=> ?_⟩, ?_⟩
 .rw[show aZ _ _ _ _ id=_ from eP id]
  split
  .rename_i e
   subst e;rw[hι];refine⟨by rw[zB2];exact r1,r2,.inr ⟨⟨C,E',lo',hi2,r4,r5,.inl r6⟩, ?_, ?_⟩⟩
   .rw[aY]
    intro j x hx;obtain⟨n,hn,rfl⟩:=Co hx;exact⟨.int .i64 n,r8 j _ (by rw[zA5,hn];rfl),rfl,by simp only[RepP]⟩
   .rcases r7 with⟨h0,h,_⟩|h
    .exact .inr ⟨rfl,(heldA B).2 ⟨by omega,h⟩⟩
    .exact .inl ⟨by show w.heap.size<=B;omega,hG B (by omega)⟩
  .trivial
 .rw[show aZ _ _ _ _ id=_ from eP id]at ho
  rw[show aZ _ _ _ _ id'=_ from eP id']at ho';split at ho
  .split at ho'
   .omega
   .exact ho'.elim
  .exact ho.elim
 .show RepA w' _ G ι' (.ref 3 0 (R.map (PV.int .i64)).length) _
  rw[RepA];refine⟨some ⟨B,o,none⟩,k,by simp,by rw[zB2];exact r1, ?_, ?_,.inr ?_⟩
  .rw[hι];simp
  .rw[hι];exact r2
  .rw[hι];simp
theorem rpT:Tryz.prog.underlying 29=some (.slice 3):=by kernel_rfl
theorem rpJ:(Tryz.prog.info? 3).map (λi=>(i.zero,i.size,i.bytes))=some (some (.int .i64 0),1,8):=by kernel_rfl
theorem rpZ:∀w,(Go.sizeOf 3).run Tryz.prog w=.ok 1 w:=λw=>by kernel_rfl
theorem Es(w:World)(tS tR e:TypeId)(ht:P.underlying tS=some (.slice e))(size:Nat)(hz:∀w,(Go.sizeOf e).run P w=.ok size w)
  (a b:Addr) (la ca lb cb:Nat) (hne:a.block≠b.block) (tA tB:TypeId) (kA kB:Nat)
  (hsa:w.shape? a.block=some (tA,kA)) (hsb:w.shape? b.block=some (tB,kB)) (hkA:kA≠0)
  (hfb:w.frozen? b=false) (hfe:w.frozen? {block:=b.block,off:=kB}=false):
  (Extern.SlicesOverlaps.overlaps #[tS,tS] #[tR] #[.slice (some a) la ca,.slice (some b) lb cb]).run P w=.ok (.bool false) w:=by
 have hnb:(a.block !=b.block)=true:=by simpa using hne
 have hnb':(a.block==b.block)=false:=by simpa using hne
 change Sem.run P (α:=Value) (do
  let some t:=(#[tS,tS]:Array TypeId)[0]? |stuck "slices.overlaps: no parameter types"
  let .slice elem <-underlying t|stuck "slices.overlaps: slice type expected"
  let size <-sizeOf elem
  match (some a:Option Addr),(some b:Option Addr)with
  |some a,some b=>
   if la=0\/lb=0\/size=0 then pure (Value.bool false)
   else if a.block !=b.block&&(<-frozen a)&&(<-frozen b)then unsupported .addressObserved
   else do
    if a.block !=b.block then do
     noView a;noView b
     if <-mayBeOne a b then return Value.bool ((<-choose (.extern "sameAddr.stringBytes" 2))==1)
    pure (Value.bool (a.block==b.block&&a.off<b.off+lb*size&&b.off<a.off+la*size))
  |_,_=>pure (Value.bool false)) w=_
 by_cases h0:la=0\/lb=0\/size=0
 .simp[zD2 ht,hz,h0]
 .cases kA with
  |zero=>exact absurd rfl hkA
  |succ kA=>
   cases kB with
   |zero=>cases q:w.frozen? a<;>cases q2:w.frozen? {block:=a.block,off:=kA+1}<;>simp[zD2 ht,hz,h0,hnb,hnb',frozen,noView,viewAt,mayBeOne,stringish,shape,Sem.run,hsa,hsb,hfb,hfe,q,q2]
   |succ kB=>cases q:w.frozen? a<;>cases q2:w.frozen? {block:=a.block,off:=kA+1}<;>simp[zD2 ht,hz,h0,hnb,hnb',frozen,noView,viewAt,mayBeOne,stringish,shape,Sem.run,hsa,hsb,hfb,hfe,q,q2]
theorem Sc(w:World)(b vb o voff lb cb m vc:Nat)(hvb:vb≠b)(tA tB:TypeId)(kA kB:Nat)(hsa:w.shape? vb=some (tA,kA))(hsb:w.shape? b=some (tB,kB))(hkA:kA≠0)
  (hfb:w.frozen? ⟨b,o,none⟩=false) (hfe:w.frozen? ⟨b,kB,none⟩=false):
  (callFunc 372 #[.slice (some ⟨vb,voff,none⟩) m vc,.slice (some ⟨b,o,none⟩) lb cb]).run Tryz.prog w=.ok (.value (.bool false)) w:=by
 rw[run_callFunc_extern Tryz.func372 (by kernel_rfl) (by kernel_rfl) (by kernel_rfl) (e:=Extern.SlicesOverlaps.overlaps #[29,29] #[4]) (by kernel_rfl),
   Es w 29 4 3 rpT 1 rpZ ⟨vb,voff,none⟩ ⟨b,o,none⟩ m vc lb cb hvb tA tB kA kB hsa hsb hkA hfb hfe]
 rfl
set_option maxRecDepth 100000 in
theorem Iv(b off n c i vb voff m vc:Nat)(cs vs:List Value)(w:World)(hi:i<n)(hm:0<m)(hroom:n+m<=c)(hc63:c<=9223372036854775807)(hvb:vb≠b)
  (hcl:cs.length=n) (hvl:vs.length=m)
  (hcs:∀j v,cs[j]? =some v->w.cell? ⟨b,off+j,none⟩=some v) (hsp:∀j,j<n+m->(w.cell? ⟨b,off+j,none⟩).isSome=true) (hfz:∀j,w.frozen? ⟨b,j,none⟩=false)
  (hvs:∀j v,vs[j]? =some v->w.cell? ⟨vb,voff+j,none⟩=some v) (h1c:∀v∈cs,v.oneCell'=true) (h1v:∀v∈vs,v.oneCell'=true)
  (tA tB:TypeId) (kA kB:Nat) (hsa:w.shape? vb=some (tA,kA)) (hsb:w.shape? b=some (tB,kB)) (hkA:kA≠0):
  Calls Tryz.prog 337 #[.slice (some ⟨b,off,none⟩) n c,.int .i64 i,.slice (some ⟨vb,voff,none⟩) m vc] w λe w'=>
   e=.returned (.slice (some ⟨b,off,none⟩) (n+m) c)/\∃k,w'=((w.drewN k).setCells b (off+(i+m)) (cs.drop i)).setCells b (off+i) vs:=by
 obtain⟨i0,hi0,hz0,hzs,hzb⟩:=info_parts rpJ;have hz1:¬((m:Int)=0):=by omega
 have hz2:¬((i:Int)=(n:Int)):=by omega
 have hsz:(Tryz.prog.info? 3).map (·.size)=some 1:=by rw[hi0];simp[hzs]
 have hdl:(cs.drop i).length=n-i:=by rw[zI6,hcl]
 have hw1:IntKind.i64.wrap ((i:Int)+(m:Int))=(i:Int)+(m:Int):=by rw[IntKind.wrap_i64];omega
 have hw2:IntKind.i64.wrap ((n:Int)+(m:Int))=(n:Int)+(m:Int):=by rw[IntKind.wrap_i64];omega
 have hb1:(0:Int)<=(i:Int)+(m:Int):=by omega
 have hin:i<=n:=by omega
 have hin':(i:Int)<=(n:Int):=by omega
 have htn:((i:Int)+(m:Int)).toNat=i+m:=by omega
 have hb2:¬(c=i+m):=by omega
 have hb3:(i:Int)<=(n:Int)+(m:Int):=by omega
 have hb4:¬(c=i):=by omega
 have hov:=λlb cb=>Sc w b vb (off+(i+m)) voff lb cb m vc hvb tA tB kA kB hsa hsb hkA (hfz _) (hfz _);have hc1:∀ty dc sc,(Builtin.copy_ #[29,29] ty #[.slice (some ⟨b,off+(i+m),none⟩) (n+m-(i+m)) dc,.slice (some ⟨b,off+i,none⟩) (n+m-i) sc]).run Tryz.prog w.drew=.ok (goInt (cs.drop i).length) (w.drew.setCells b (off+(i+m)) (cs.drop i)):=λty dc sc=>
  run_copy_cells w.drew _ _ ty 3 b (off+(i+m)) (n+m-(i+m)) dc ⟨b,off+i,none⟩ (n+m-i) sc (cs.drop i) rpT hsz (by rw[hdl];simp only[Nat.min_def];split<;>omega)
   (λj v hj=>by rw[Addr.add_lit,zE9];exact hcs (i+j) v (by rwa [zG0]at hj))
   (λj hj=>by rw[zE9];exact hsp _ (by omega)) (λj hj=>hfz _) (λv hv=>h1c v (List.mem_of_mem_drop hv))
 have hc2:∀ty dc,(Builtin.copy_ #[29,29] ty #[.slice (some ⟨b,off+i,none⟩) (n+m-i) dc,.slice (some ⟨vb,voff,none⟩) m vc]).run Tryz.prog (w.drew.setCells b (off+(i+m)) (cs.drop i))=.ok (goInt vs.length) ((w.drew.setCells b (off+(i+m)) (cs.drop i)).setCells b (off+i) vs):=λty dc=>
  run_copy_cells _ _ _ ty 3 b (off+i) (n+m-i) dc ⟨vb,voff,none⟩ m vc vs rpT hsz (by rw[hvl];simp only[Nat.min_def];split<;>omega)
   (λj v hj=>by rw[Addr.add_lit,World.cell?_setCells_out b _ _ _ _ (λh _=>absurd h hvb)];exact hvs j v hj)
   (λj hj=>isSome_setCells b _ _ _ (λq hq=>by rw[zE9];exact hsp _ (by omega)) _ (by rw[zE9];exact hsp _ (by omega)))
   (λj hj=>by rw[World.frozen?_setCells];exact hfz _) h1v
 have hc3:=hc1 3;have hc4:=hc2 3;clear hc1 hc2
 go_enter Tryz.func337,Tryz.ntmps337
 go_wp2_with (simp only[hov])
 go_region
 go_wp2
 go_ret
 exact⟨rfl,1,rfl⟩
theorem XY{p q:Nat}(hw:w'=(w.setCells b p xs).setCells b q ys)(hd:p+xs.length<=q\/q+ys.length<=p)(hx:∀j,j<xs.length->(w.cell? ⟨b,p+j,none⟩).isSome=true)
  (hy:∀j,j<ys.length->(w.cell? ⟨b,q+j,none⟩).isSome=true):
  (∀j v,xs[j]? =some v->w'.cell? ⟨b,p+j,none⟩=some v)/\(∀j v,ys[j]? =some v->w'.cell? ⟨b,q+j,none⟩=some v)/\(∀x,(x<p\/p+xs.length<=x)->(x<q\/q+ys.length<=x)->w'.cell? ⟨b,x,none⟩=w.cell? ⟨b,x,none⟩):=by
 subst hw;refine⟨λj v hv=> ?_,λj v hv=> ?_,λx h1 h2=> ?_⟩
 .have hj:j<xs.length:=(zB4.1 hv).1
  rw[World.cell?_setCells_out _ _ _ _ _ (λ_ _=>by simp only;omega),World.cell?_setCells_in b xs p w hx j hj];rw[<-hv,zA1 hj]
 .have hj:j<ys.length:=(zB4.1 hv).1
  rw[World.cell?_setCells_in b ys q _ (λk hk=>isSome_setCells _ _ _ _ hx _ (hy k hk)) j hj];rw[<-hv,zA1 hj]
 .rw[World.cell?_setCells_out _ _ _ _ _ (λ_ _=>by simp only;omega),World.cell?_setCells_out _ _ _ _ _ (λ_ _=>by simp only;omega)]
theorem Kz{f:Nat->Option Value}{i:Nat}{cs vs ds:List Value}(hi:i<=cs.length)(h1:∀j v,j<i->cs[j]? =some v->f j=some v)(h2:∀j v,vs[j]? =some v->f (i+j)=some v)
  (h3:∀j v,ds[j]? =some v->f (i+vs.length+j)=some v) (j:Nat) (v:Value) (h:(cs.take i++(vs++ds))[j]? =some v):f j=some v:=by
 have hl:(cs.take i).length=i:=by simp;omega
 rw[zE5]at h;split at h
 .rw[zH2]at h
  split at h
  .exact h1 j v (by omega) h
  .cases h
 .rw[hl]at h
  rename_i hj;rw[hl]at hj;rw[zE5]at h;split at h
  .have:=h2 _ v h
   rwa [show i+(j-i)=j by omega]at this
  .rename_i hk
   have:=h3 _ v h
   rwa [show i+vs.length+(j-i-vs.length)=j by omega]at this
theorem TU(w:World)(o:Obj):(w.alloc o).heap[w.heap.size]? =some o:=by
 have e:(w.alloc o).heap=w.heap.push o:=rfl;rw[e];simp
theorem Sd(a:Option Addr)(b off n c i vb voff m vc:Nat)(L v:List Int)(w:World)(hi:i<=n)(hm:1<=m)(hbig:(n+m)*8<=140737488355328)(hL:L.length=n)(hvl:v.length=m)(hl:OY w L a b off c)(hvb:c≠0->vb≠b)
  (hvs:∀(j:Nat) u,(v.map (Value.int .i64))[j]? =some u->w.cell? ⟨vb,voff+j,none⟩=some u):
  Calls Tryz.prog 337 #[.slice a n c,.int .i64 i,.slice (some ⟨vb,voff,none⟩) m vc] w λe w'=>OW w w' b off c ((L.take i++(v++L.drop i)).map (Value.int .i64)) e:=by
 obtain⟨hnc,hc63,hloc⟩:=hl;rw[hL]at hnc;have hc6:c<=9223372036854775807:=hc63;obtain⟨cs,hcs0⟩:∃cs,cs=L.map (Value.int .i64):=⟨_,rfl⟩;obtain⟨vs,hvs0⟩:∃vs,vs=v.map (Value.int .i64):=⟨_,rfl⟩;have hcl:cs.length=n:=by rw[hcs0,zB2,hL]
 have hvl2:vs.length=m:=by rw[hvs0,zB2,hvl]
 have h1:∀(Z:List Int) u,u∈Z.map (Value.int .i64)->u.oneCell'=true:=λZ u h=>by
  obtain⟨n,_,rfl⟩:=zD0.1 h;rfl
 have h1c:∀u∈cs,u.oneCell'=true:=hcs0▸h1 L;have h1v:∀u∈vs,u.oneCell'=true:=hvs0▸h1 v;rw[<-hvs0]at hvs;rw[show(L.take i++(v++L.drop i)).map (Value.int .i64)=cs.take i++(vs++cs.drop i)by rw[hcs0,hvs0];simp[List.map_take,List.map_drop]];have hrl:(cs.take i++(vs++cs.drop i)).length=n+m:=by simp[hcl,hvl2];omega
 have fresh:∀(w1 w':World) (G:Nat) (ROW:Array Value),Tnd w w1 w.heap.size->w1.heap.size=w.heap.size->w1.heap=w.heap->n+m<=G->G<=maxLen->ROW.size=G->Tnd (w1.alloc (.cells ROW 3)) w' w.heap.size->(∀j u,(cs.take i++(vs++cs.drop i))[j]? =some u->w'.cell? ⟨w.heap.size,j,none⟩=some u)->OW w w' b off c (cs.take i++(vs++cs.drop i)) (.returned (.slice (some ⟨w.heap.size,0,none⟩) (n+m) G)):=by
  intro w1 w' G ROW T1 hs1 hh g1 g2 g3 T2 g4;have e:(w1.alloc (.cells ROW 3)).heap[w.heap.size]? =some (.cells ROW 3):=by rw[<-hs1];exact TU w1 _
  obtain⟨C,c1,c2⟩:=T2.row ROW 3 (0,0) e;have T3:Tnd w (w1.alloc (.cells ROW 3)) w.heap.size:=T1.trans (hs1▸Tnd.alloc w1 (.cells ROW 3));exact⟨w.heap.size,0,G,by rw[hrl],by omega,g2,by omega,T3.trans T2,⟨C,3,0,0,c1,by omega,zB1 _⟩,.inr rfl,λj u hu=>by rw[zI0];exact g4 j u hu⟩
 by_cases hin:i=n
 .subst hin
  have hdn:cs.drop i=[]:=zA4 (by simp;omega);have htk:cs.take i=cs:=zA2 (by omega);by_cases hroom:i+m<=c
  .rcases hloc with h0|⟨rfl,CS,E,lo,hi',hcell,hfit,hfr,hx⟩
   .omega
   have hsp:∀j,j<c->(w.cell? ⟨b,off+j,none⟩).isSome=true:=λj hj=>by
    rw[qj,hcell];simp only;rw[Array.getElem?_eq_getElem (by omega)];rfl
   have hfz:∀j,w.frozen? ⟨b,j,none⟩=false:=λj=>by simp only[World.frozen?,hcell];simp;omega
   have hcs:∀j u,cs[j]? =some u->w.cell? ⟨b,off+j,none⟩=some u:=λj u h=>by
    rw[hcs0,zA5]at h;cases e:L[j]? with
    |none=>rw[e]at h;cases h
    |some n=>rw[e]at h;cases h;rw[qj,hcell];exact hx j n e
   refine(Tryz.ins_end_room b off i c vb voff m vc vs w (by omega) hroom hc6 hvl2 (λj hj=>by rw[zE9];exact hsp _ (by omega)) (λj _=>hfz _) hvs h1v).mono ?_;rintro e w' ⟨rfl,hw⟩;have T:Tnd w w' b:=hw▸Tnd.setCells b vs w _;obtain⟨C,q1,q2⟩:=T.row CS E (lo,hi') hcell;refine⟨b,off,c,by rw[hrl],by omega,hc63,by omega,T,⟨C,E,lo,hi',q1,by omega,hfr⟩,.inl ⟨by omega,rfl,rfl,rfl⟩, ?_⟩;obtain⟨f1,f2,f3⟩:=XY (w:=w) (w':=w') (b:=b) (p:=off+i) (q:=off+i+m) (xs:=vs) (ys:=[]) hw (.inl (by omega)) (λj hj=>by rw[zE9];exact hsp _ (by omega)) (λj hj=>by simp at hj);rw[hdn];exact Kz (f:=λj=>w'.cell? ⟨b,off+j,none⟩) (by omega) (λj v hj hv=>by rw[f3 _ (.inl (by omega)) (by simp;omega)];exact hcs j v hv) (λj v hv=>by rw[<-zE9];exact f1 j v hv) (λj v hv=>by cases hv)
  .refine(Tryz.ins_end_grow a i c vb voff m vc cs vs w (by omega) hnc (by omega) hbig hcl hvl2 (λe=> ?_) (λa' e j u hj=> ?_) hvs h1v).mono ?_
   .rcases hloc with h0|⟨h,_⟩
    .omega
    .rw[h]at e;cases e
   .rcases hloc with h0|⟨h,CS,E,lo,hi',hcell,hfit,hfr,hx⟩
    .have:=(zB4.1 hj).1;omega
    .rw[h]at e;cases e
     rw[Addr.add_lit,qj,hcell];rw[hcs0,zA5]at hj;cases q:L[j]? with
     |none=>rw[q]at hj;cases hj
     |some n=>rw[q]at hj;cases hj;exact hx j n q
   rintro e w' ⟨rfl,hw⟩;obtain⟨G,hG⟩:∃G,G=grownCap w (i+m) c 3:=⟨_,rfl⟩;rw[<-hG]at hw |-
   have hGn:i+m<=G:=by rw[hG];exact grownCap_ge w _ _ _
   have hGm:G<=maxLen:=by rw[hG];exact grownCap_le_maxLen w (i+m) c 3 (by unfold maxLen;omega)
   obtain⟨ROW,hR⟩:∃ROW:Array Value,ROW=(cs++vs).toArray++Builtin.zeroCells (Value.int .i64 0).cells (G-(i+m)):=⟨_,rfl⟩;rw[<-hR]at hw;refine fresh w.drew w' G ROW (Tnd.drew w _) rfl rfl hGn hGm (by rw[hR];simp[Builtin.zeroCells,Value.cells];omega) (hw▸Tnd.drewN _ _ 0) λj u hu=> ?_;rw[hdn,zC0,htk]at hu;rw[hw,World.cell?_alloc_at (w:=w.drew) ROW _ w.heap.size _ rfl,hR,Array.getElem?_append_left (by
     have:=(zB4.1 hu).1;simpa using this)]
   simpa using hu
 .rcases hloc with h0|⟨rfl,CS,E,lo,hi',hcell,hfit,hfr,hx⟩
  .omega
  have hsp:∀j,j<c->(w.cell? ⟨b,off+j,none⟩).isSome=true:=λj hj=>by
   rw[qj,hcell];simp only;rw[Array.getElem?_eq_getElem (by omega)];rfl
  have hfz:∀j,w.frozen? ⟨b,j,none⟩=false:=λj=>by simp only[World.frozen?,hcell];simp;omega
  have hcs:∀j u,cs[j]? =some u->w.cell? ⟨b,off+j,none⟩=some u:=λj u h=>by
   rw[hcs0,zA5]at h;cases e:L[j]? with
   |none=>rw[e]at h;cases h
   |some n=>rw[e]at h;cases h;rw[qj,hcell];exact hx j n e
  have hbw:b<w.heap.size:=(zC7.1 hcell).1;by_cases hroom:n+m<=c
  .obtain⟨v0,hv0⟩:∃v0,vs[0]? =some v0:=⟨_,zA1 (by omega)⟩
   have hx0:=hvs 0 v0 hv0;obtain⟨C2,E2,fr2,hC2,hC3⟩:∃C2 E2 fr2,w.heap[vb]? =some (.cells C2 E2 fr2)/\C2.size≠0:=by
    rw[qj]at hx0;split at hx0
    .rename_i C2 E2 fr2 hC
     refine⟨C2,E2,fr2,hC,λe=> ?_⟩;rw[Array.getElem?_eq_none (by omega)]at hx0;cases hx0
    .cases hx0
   refine(Iv b off n c i vb voff m vc cs vs w (by omega) (by omega) hroom hc6 (hvb (by omega)) hcl hvl2 hcs (λj hj=>hsp j (by omega)) hfz hvs h1c h1v E2 E C2.size CS.size (by simp only[World.shape?,hC2]) (by simp only[World.shape?,hcell]) hC3).mono ?_;rintro e w' ⟨rfl,k,hw⟩;have T:Tnd w w' b:=hw▸((Tnd.drewN w b k).trans (Tnd.setCells b _ _ _)).trans (Tnd.setCells b _ _ _);obtain⟨C,q1,q2⟩:=T.row CS E (lo,hi') hcell;refine⟨b,off,c,by rw[hrl],by omega,hc63,by omega,T,⟨C,E,lo,hi',q1,by omega,hfr⟩,.inl ⟨by omega,rfl,rfl,rfl⟩, ?_⟩;obtain⟨f1,f2,f3⟩:=XY (w:=w.drewN k) (w':=w') (b:=b) (p:=off+(i+m)) (q:=off+i) (xs:=cs.drop i) (ys:=vs) hw (.inr (by omega)) (λj hj=>by simp at hj;rw[zE9];exact hsp _ (by omega)) (λj hj=>by rw[zE9];exact hsp _ (by omega));exact Kz (f:=λj=>w'.cell? ⟨b,off+j,none⟩) (by omega) (λj v hj hv=>by rw[f3 _ (.inl (by omega)) (.inl (by omega))];exact hcs j v hv) (λj v hv=>by rw[<-zE9];exact f2 j v hv) (λj v hv=>by rw[hvl2,<-zE9];exact f1 j v hv)
  .refine(Tryz.ins_grow b off n c i vb voff m vc cs vs w (by omega) (by omega) hnc (by omega) hbig hcl hvl2 hcs hvs h1c h1v).mono ?_
   rintro e w' ⟨rfl,hw⟩;obtain⟨G,hG⟩:∃G,G=grownCap w (n+m) c 3:=⟨_,rfl⟩;rw[<-hG]at hw |-
   have hGn:n+m<=G:=by rw[hG];exact grownCap_ge w _ _ _
   have hGm:G<=maxLen:=by rw[hG];exact grownCap_le_maxLen w (n+m) c 3 (by unfold maxLen;omega)
   obtain⟨ROW,hR⟩:∃ROW:Array Value,ROW=(cs.take i).toArray++Builtin.zeroCells (Value.int .i64 0).cells (n+m-i)++Builtin.zeroCells (Value.int .i64 0).cells (G-(n+m)):=⟨_,rfl⟩;rw[<-hR]at hw;have hRs:ROW.size=G:=by rw[hR];simp[Builtin.zeroCells,Value.cells];omega
   rw[drew_setCells]at hw;have T2:Tnd (w.alloc (.cells ROW 3)) w' w.heap.size:=hw▸((Tnd.drewN _ w.heap.size 2).trans (Tnd.setCells w.heap.size _ _ _)).trans (Tnd.setCells w.heap.size _ _ _);have hn:∀j,(w.alloc (.cells ROW 3)).cell? ⟨w.heap.size,j,none⟩=ROW[j]? :=λj=>World.cell?_alloc_at (w:=w) ROW _ w.heap.size j rfl;have hsm:∀j,j<G->(((w.alloc (.cells ROW 3)).drew.drew).cell? ⟨w.heap.size,j,none⟩).isSome=true:=λj hj=>by
    show((w.alloc (.cells ROW 3)).cell? ⟨w.heap.size,j,none⟩).isSome=true;rw[hn,Array.getElem?_eq_getElem (by omega)];rfl
   refine fresh w w' G ROW (Tnd.drewN w _ 0) rfl rfl hGn hGm hRs T2 ?_;obtain⟨f1,f2,f3⟩:=XY (w:=(w.alloc (.cells ROW 3)).drew.drew) (w':=w') (b:=w.heap.size) (p:=i) (q:=i+m) (xs:=vs) (ys:=cs.drop i) hw (.inl (by omega)) (λj hj=>hsm _ (by omega)) (λj hj=>by simp at hj;exact hsm _ (by omega));have g4:∀j u,j<i->cs[j]? =some u->ROW[j]? =some u:=λj u hj hu=>by
    rw[hR,Array.append_assoc,Array.getElem?_append_left (by simp;omega)];simp[hj,hu]
   exact Kz (f:=λj=>w'.cell? ⟨w.heap.size,j,none⟩) (by omega) (λj v hj hv=>by
    rw[f3 _ (.inl (by omega)) (.inl (by omega))];show(w.alloc (.cells ROW 3)).cell? ⟨w.heap.size,j,none⟩=some v;rw[hn];exact g4 j v hj hv) (λj v hv=>f1 j v hv) (λj v hv=>by rw[hvl2];exact f2 j v hv)
theorem Nk(L v:List Int)(i:Nat)(hi:i<=L.length)(hv1:1<=v.length)(hL:L.length<=1048576)(hvl:v.length<=1048576):
  CallT Tryz.prog true 337 [.mu false (List.map (PV.int .i64) L),.pv (.int .i64 i),.pv (lI m0 v)] [none,none,none] [oI (L.take i++(v++L.drop i))]:=
 PJ Tryz.func337 rfl rfl L v _ i hv1 λw a B off cap vb voff vc hl hvb hvs=>Sd a B off L.length cap i vb voff v.length vc L v w hi hv1 (by omega) rfl rfl hl hvb hvs
end Go.Gl
