/-
  What the functions compute, and what the law asks of it: texts joined. Conditions: those that each lemma names.
-/
import Derived.Test.YtbppfpdgahopeaaGreatDoorT1
import Derived.Test.YtbppfpdgahopeaaGreatDoorGlC
import Derived.Test.YtbppfpdgahopeaaGreatDoorT2
import Derived.Lib.ItoaLen
import Derived.Lib.AppendIntMem
set_option linter.unusedSimpArgs false
set_option linter.unusedVariables false
set_option maxRecDepth 20000
set_option linter.unusedSectionVars false
set_option maxHeartbeats 16000000
namespace Go.Gl
open Go Go.Proofs
variable [Amb] [NoQ]
section
variable {α:Type} {f:α→PV} {m:Bool} {cs:List Nat} {L:List (Option (List α))} {h:Nat→Blk} {k:Nat} {C:R→Prop}
def iy (f:α→PV) (m:Bool) (cs:List Nat) (L:List (Option (List α))):Blk:=.deep m (cs.map .row) (L.map (Option.map (List.map f)))
def H6 (f:α→PV) (m:Bool) (cs:List Nat) (L:List (Option (List α))):Blk:=.deep m (cs.map .row++[.v (.sl .own [])]) (L.map (Option.map (List.map f)))
theorem NQ {L:List (List α)}:dk f m L=iy f m (List.range L.length) (L.map some):=by
 simp only[dk,iy,canon,List.map_map];rfl
theorem lN {r:Nat}:(L.map (Option.map (List.map f)))[r]? =(L[r]?).map (Option.map (List.map f)):=List.getElem?_map ..
def Wx (id r:Nat):Option (Option (List α))→AV
 |some (some l)=>.inn id r 0 l.length
 |_=>.p .any
theorem Ow {id r:Nat} {l:List α}:Wx id r (some (some l))=.inn id r 0 l.length:=_root_.id rfl
theorem VI {id r:Nat}:DC.av id (L.map (Option.map (List.map f))) (.row r)=Wx id r (L[r]?):=by
 simp only[DC.av,lN]
 cases L[r]? with
 |none=>rfl
 |some o=>cases o with
  |none=>rfl
  |some l=>simp[Wx]
theorem S5 {id off:Nat}:rE (iy f m cs L) id off C=(off<cs.length∧C ⟨Wx id (cs.getD off 0) (L[cs.getD off 0]?),[],[id]⟩):=by
 simp only[rE,iy,gt,Int.toNat_natCast,Int.natCast_nonneg,true_and,KD,List.getElem?_map]
 by_cases ho:off<cs.length
 ·rw[List.getElem?_eq_getElem ho,List.getD_eq_getElem?_getD,List.getElem?_eq_getElem ho]
  simp only[Option.map_some,VI,ho,true_and,Option.getD_some]
 ·rw[List.getElem?_eq_none (by omega)];simp[ho]
theorem I2 {id off:Nat} (h:off=cs.length):rE (H6 f m cs L) id off C=C ⟨.p (.sl .own []),[],[id]⟩:=by
 subst h
 simp[rE,H6,gt,KD,DC.av]
def ldO (f:α→PV) (id off:Nat) (C:R→Prop):Option (Option (List α))→Prop
 |some (some l)=>gt (l.map f) off (KX id C)
 |_=>False
theorem L9 {id off:Nat} {l:List α}:ldO f id off C (some (some l))=gt (l.map f) off (KX id C):=_root_.id rfl
theorem SY {id r off:Nat}:OQ (iy f m cs L) id r off C=ldO f id off C (L[r]?):=by
 simp only[OQ,iy,lN]
 cases L[r]? with
 |none=>rfl
 |some o=>cases o<;>rfl
def ctO (f:α→PV) (id off len:Nat) (F:List PV→List Nat→Prop):Option (Option (List α))→Prop
 |some (some l)=>off+len≤l.length∧F (((l.map f).drop off).take len) [id]
 |_=>False
theorem Ob {id off len:Nat} {F:List PV→List Nat→Prop} {l:List α}:ctO f id off len F (some (some l))=(off+len≤l.length∧F (((l.map f).drop off).take len) [id]):=_root_.id rfl
theorem N9 {id r off len:Nat} {F:List PV→List Nat→Prop}:Jf (iy f m cs L) id r off len F=ctO f id off len F (L[r]?):=by
 simp only[Jf,iy,lN]
 cases L[r]? with
 |none=>rfl
 |some o=>cases o with
  |none=>rfl
  |some l=>simp[ctO]
def MA (f:α→PV) (id off len:Nat) (F:PV→List Nat→Prop):Option (Option (List α))→Prop
 |some (some l)=>off+len≤l.length∧F (.sl (.lent true) (((l.map f).drop off).take len)) [id]
 |_=>False
theorem GO {id off len:Nat} {F:PV→List Nat→Prop} {l:List α}:MA f id off len F (some (some l))=(off+len≤l.length∧F (.sl (.lent true) (((l.map f).drop off).take len)) [id]):=_root_.id rfl
theorem Tu {id r off len:Nat} {F:PV→List Nat→Prop}:AL (iy f m cs L) id r off len F=MA f id off len F (L[r]?):=by
 simp only[AL,iy,lN]
 cases L[r]? with
 |none=>rfl
 |some o=>cases o with
  |none=>rfl
  |some l=>simp only[Option.map_some,MA,List.length_map];rfl
def Wy (f:α→PV) (m:Bool) (cs:List Nat) (L:List (Option (List α))) (id r len k:Nat) (C:R→Prop) (ys:List PV) (rd:List Nat):Option (Option (List α))→Prop
 |some (some l)=>len=l.length∧id∉rd∧len+ys.length≤1099511627776∧C ⟨.ref k 0 (len+ys.length),[(id,iy f m cs (L.set r none)),(k,.live m (l.map f++ys))],id::rd⟩
 |_=>False
theorem Ej {id r len:Nat} {ys:List PV} {rd:List Nat} {l:List α}:Wy f m cs L id r len k C ys rd (some (some l))=(len=l.length∧id∉rd∧len+ys.length≤1099511627776∧C ⟨.ref k 0 (len+ys.length),[(id,iy f m cs (L.set r none)),(k,.live m (l.map f++ys))],id::rd⟩):=_root_.id rfl
theorem Eh {id r len:Nat} {ys:List PV} {rd:List Nat}:OX (iy f m cs L) id r len k C ys rd=Wy f m cs L id r len k C ys rd (L[r]?):=by
 simp only[OX,iy,lN]
 have e:(L.map (Option.map (List.map f))).set r none=(L.set r none).map (Option.map (List.map f)):=by rw[List.map_set];rfl
 cases L[r]? with
 |none=>rfl
 |some o=>cases o with
  |none=>rfl
  |some l=>simp only[Option.map_some,Wy,List.length_map,iy,e]
theorem Bo {m':Bool} {l:List α} {id off id' off' len:Nat}:jY (iy f m cs L) (.live m' (l.map f)) id off id' off' len C=((m'=true→m=true)∧off'=0∧len=l.length∧off<cs.length∧id'≠id∧C ⟨.p .any,[(id',.dead),(id,iy f m (cs.set off L.length) (L++[some l]))],[id,id']⟩):=by
 simp only[jY,iy,List.length_map,List.map_append,List.map_set,List.map_cons,List.map_nil,Option.map_some]
theorem JP {m':Bool} {l:List α} {id off id' off' len:Nat} (h:off=cs.length):jY (H6 f m cs L) (.live m' (l.map f)) id off id' off' len C=((m'=true→m=true)∧off'=0∧len=l.length∧id'≠id∧C ⟨.p .any,[(id',.dead),(id,iy f m (cs++[L.length]) (L++[some l]))],[id,id']⟩):=by
 subst h
 have e:(cs.map DC.row++[DC.v (.sl .own [])]).set cs.length (.row L.length)=(cs++[L.length]).map .row:=by
  rw[List.set_append_right _ _ (by simp)];simp
 simp only[jY,H6,iy,List.length_map,List.length_append,List.length_singleton,e,List.map_append,List.map_cons,List.map_nil,Option.map_some,Nat.lt_succ_self,true_and]
def OO (b:Blk) (id r off:Nat) (v:PV) (C:R→Prop):Prop:=v.cell.cellOk=true∧(match b with
  | .deep m cs rs=>(match rs[r]? with
   |some (some c)=>off<c.length∧C ⟨.p .any,[(id,.deep m cs (rs.set r (some (c.set off v.cell))))],[id]⟩
   |_=>False)
  |_=>False)
theorem ES {id r off:Nat} {v:PV}:v7 (some (1,false)) h (.iptr id r off) (.p v) C=OO (h id) id r off v C:=by
 simp only[v7,zi,OO,true_and]
 cases h id<;>rfl
def YP (m:Bool) (cs:List Nat) (L:List (Option (List Int))) (id r off:Nat) (n:Int) (C:R→Prop):Option (Option (List Int))→Prop
 |some (some l)=>off<l.length∧C ⟨.p .any,[(id,iy (PV.int .i64) m cs (L.set r (some (l.set off n))))],[id]⟩
 |_=>False
theorem Kb {L:List (Option (List Int))} {id r off:Nat} {n:Int} {l:List Int}:YP m cs L id r off n C (some (some l))=(off<l.length∧C ⟨.p .any,[(id,iy (PV.int .i64) m cs (L.set r (some (l.set off n))))],[id]⟩):=_root_.id rfl
theorem Rm {L:List (Option (List Int))} {id r off:Nat} {n:Int}:OO (iy (PV.int .i64) m cs L) id r off (.int .i64 n) C=YP m cs L id r off n C (L[r]?):=by
 simp only[OO,iy,lN,PV.cell,PV.cellOk,true_and]
 cases L[r]? with
 |none=>rfl
 |some o=>cases o with
  |none=>rfl
  |some l=>
   have e:(L.map (Option.map (List.map (PV.int .i64)))).set r (some ((l.map (PV.int .i64)).set off (.int .i64 n)))=(L.set r (some (l.set off n))).map (Option.map (List.map (PV.int .i64))):=by
    rw[List.map_set,Option.map_some,List.map_set]
   simp only[Option.map_some,YP,List.length_map,e,iy]
theorem Rn {L:List (List Int)} {id r off:Nat} {n:Int}:OO (dk (PV.int .i64) m L) id r off (.int .i64 n) C=(r<L.length∧off<(L.getD r []).length∧C ⟨.p .any,[(id,dk (PV.int .i64) m (L.set r ((L.getD r []).set off n)))],[id]⟩):=by
 simp only[OO,dk,PV.cell,PV.cellOk,true_and]
 by_cases hr:r<L.length
 ·rw[dx hr]
  have e:(L.map fun l=>some (l.map (PV.int .i64))).set r (some (((L.getD r []).map (PV.int .i64)).set off (.int .i64 n)))=(L.set r ((L.getD r []).set off n)).map fun l=>some (l.map (PV.int .i64)):=by
   rw[List.map_set,List.map_set]
  simp only[hr,true_and,List.length_map,e,List.length_set]
 ·rw[List.getElem?_eq_none (by simp;omega)];simp[hr]
theorem nM:(cs.map DC.row).all DC.noSelf=true:=by rw[List.all_eq_true];intro x hx;obtain⟨_,_,rfl⟩:=List.mem_map.1 hx;rfl
theorem TM {n:Nat} {q:Nat}:(canon n).map (DC.up q)=((List.range n).map (q+·)).map .row:=by
 simp only[canon,List.map_map];rfl
theorem VR {L':List (List α)} {id len j n:Nat}:yS (iy f m cs L) (dk f false L') id len j n k C=(n=L'.length∧id≠j∧len=cs.length∧len+n≤1099511627776∧
  C ⟨.ref k 0 (len+n),[(j,.dead),(id,.dead),(k,iy f m (cs++(List.range L'.length).map (L.length+·)) (L++L'.map some))],[id,j]⟩):=by
 simp only[yS,dk,iy,cB,gR,nM,List.length_map,true_and,TM,List.map_append]
 rw[show(L'.map fun l=>some (l.map f))=(L'.map some).map (Option.map (List.map f))by rw[List.map_map];rfl]
theorem VS {id len j n:Nat}:yS (iy f m cs L) (.deep false [.v (.sl .own [])] []) id len j n k C=(n=1∧id≠j∧len=cs.length∧len+n≤1099511627776∧
  C ⟨.ref k 0 (len+n),[(j,.dead),(id,.dead),(k,H6 f m cs L)],[id,j]⟩):=by
 simp only[yS,iy,H6,nM,List.length_map,List.length_singleton,List.all_cons,List.all_nil,DC.noSelf,Bool.and_self,true_and,List.map_cons,List.map_nil,DC.up,List.append_nil]
theorem VT {id len j n:Nat}:yS (iy f m cs L) (.deep false [.row 0] [some []]) id len j n k C=(n=1∧id≠j∧len=cs.length∧len+n≤1099511627776∧
  C ⟨.ref k 0 (len+n),[(j,.dead),(id,.dead),(k,iy f m (cs++[L.length]) (L++[some []]))],[id,j]⟩):=by
 simp only[yS,iy,nM,List.length_map,List.length_singleton,List.all_cons,List.all_nil,DC.noSelf,Bool.and_self,true_and,List.map_cons,List.map_nil,DC.up,Nat.add_zero,List.map_append,Option.map_some,List.map_nil]
theorem Dh {β:Type} {l:List β} {i:Nat} {x d:β} (h:i<l.length):(l.set i x).getD i d=x:=by rw[List.getD_eq_getElem?_getD,List.getElem?_set_self h];rfl
theorem Dg {β:Type} {l:List β} {i j:Nat} {x d:β} (h:i≠j):(l.set i x).getD j d=l.getD j d:=by rw[List.getD_eq_getElem?_getD,List.getElem?_set_ne h,←List.getD_eq_getElem?_getD]
theorem I7 {β:Type} {l:List β} {j:Nat} {x d:β} (h:j<l.length):(l++[x]).getD j d=l.getD j d:=by rw[List.getD_eq_getElem?_getD,List.getElem?_append_left h,←List.getD_eq_getElem?_getD]
theorem Dn {β:Type} {l:List β} {j:Nat} {x d:β} (h:j=l.length):(l++[x]).getD j d=x:=by
 subst h;rw[List.getD_eq_getElem?_getD,List.getElem?_append_right (Nat.le_refl _),Nat.sub_self];rfl
theorem Dl {β:Type} {l:List β} {j:Nat} {x:β} (h:j=l.length):(l++[x])[j]? =some x:=by
 subst h;rw[List.getElem?_append_right (Nat.le_refl _),Nat.sub_self];rfl
structure Tb (cs:List Nat) (L:List (Option (List α))) (T:List (List α)):Prop where
 len:cs.length=T.length
 at_:∀i,i<T.length→L[cs.getD i 0]? =some (some (T.getD i []))
 nd:cs.Nodup
 lt:∀r∈cs,r<L.length
theorem Tb.nil:Tb (α:=α) [] [] []:=⟨rfl,fun i hi=>absurd hi (by simp),List.nodup_nil,fun r hr=>by cases hr⟩
theorem Bg {T:List (List α)}:Tb (List.range T.length) (T.map some) T:=by
 refine⟨by simp,fun i hi=> ?_,List.nodup_range,fun r hr=>by simpa using hr⟩
 rw[List.getD_eq_getElem?_getD,List.getElem?_range hi,Option.getD_some,List.getElem?_map,List.getElem?_eq_getElem hi,List.getD_eq_getElem?_getD,List.getElem?_eq_getElem hi];rfl
theorem I6 {cs:List Nat} (hn:cs.Nodup) {i j:Nat} (hi:i<cs.length) (hj:j<cs.length) (e:i≠j):cs.getD i 0≠cs.getD j 0:=by
 rw[List.getD_eq_getElem?_getD,List.getD_eq_getElem?_getD,List.getElem?_eq_getElem hi,List.getElem?_eq_getElem hj]
 intro q
 exact e ((List.getElem_inj hn).1 q)
theorem wZ {cs:List Nat} {i:Nat} (hi:i<cs.length):cs.getD i 0∈cs:=by
 rw[List.getD_eq_getElem?_getD,List.getElem?_eq_getElem hi];exact List.getElem_mem hi
theorem JN {T:List (List α)} {i:Nat} {l:List α} (h:Tb cs L T) (hi:i<T.length):Tb cs (L.set (cs.getD i 0) (some l)) (T.set i l):=by
 have hl:=h.len
 refine⟨by rw[List.length_set];exact hl,fun j hj=> ?_,h.nd,fun r hr=>by rw[List.length_set];exact h.lt r hr⟩
 rw[List.length_set]at hj
 rw[List.getElem?_set]
 by_cases e:i=j
 ·subst e
  rw[if_pos rfl,if_pos (h.lt _ (wZ (by omega))),Dh hj]
 ·rw[if_neg (I6 h.nd (by omega) (by omega) e),h.at_ j hj,Dg e]
theorem lY {T:List (List α)} {i:Nat} {l:List α} (h:Tb cs L T) (hi:i<T.length):Tb (cs.set i (L.set (cs.getD i 0) none).length) (L.set (cs.getD i 0) none++[some l]) (T.set i l):=by
 have hl:=h.len
 refine⟨by rw[List.length_set,List.length_set];exact hl,fun j hj=> ?_, ?_,fun r hr=> ?_⟩
 ·rw[List.length_set]at hj
  by_cases e:i=j
  ·subst e
   rw[Dh (by omega),Dl rfl,Dh hj]
  ·have h1:=h.lt _ (wZ (cs:=cs) (i:=j) (by omega))
   rw[Dg e,List.getElem?_append_left (by rw[List.length_set];exact h1),List.getElem?_set_ne (I6 h.nd (by omega) (by omega) e),h.at_ j hj,Dg e]
 ·rw[List.length_set]
  refine List.nodup_iff_pairwise_ne.2 ?_
  rw[List.pairwise_iff_getElem]
  intro a b ha hb hab
  rw[List.length_set]at ha hb
  rw[List.getElem_set,List.getElem_set]
  have g:∀q (hq:q<cs.length),cs[q]<L.length:=fun q hq=>h.lt _ (List.getElem_mem hq)
  have:=g a ha;have:=g b hb
  split<;>split
  ·omega
  ·omega
  ·omega
  ·exact fun q=>by have:=(List.getElem_inj h.nd).1 q;omega
 ·rcases List.mem_or_eq_of_mem_set hr with q|q
  ·have:=h.lt r q;simp;omega
  ·rw[q];simp
theorem sU {T:List (List α)} {l:List α} (h:Tb cs L T):Tb (cs++[L.length]) (L++[some l]) (T++[l]):=by
 have hl:=h.len
 refine⟨by simp[hl],fun j hj=> ?_, ?_,fun r hr=> ?_⟩
 ·by_cases e:j<T.length
  ·have h1:=h.lt _ (wZ (cs:=cs) (i:=j) (by omega))
   rw[I7 (by omega),List.getElem?_append_left h1,h.at_ j e,I7 e]
  ·simp only[List.length_append,List.length_singleton]at hj
   obtain rfl:j=T.length:=by omega
   rw[Dn (j:=T.length) hl.symm,Dl rfl,Dn rfl]
 ·rw[List.nodup_append]
  refine⟨h.nd,by simp,fun a ha b hb e=> ?_⟩
  simp at hb;subst hb;subst e
  exact absurd (h.lt _ ha) (Nat.lt_irrefl _)
 ·rcases List.mem_append.1 hr with q|q
  ·have:=h.lt r q;simp;omega
  ·simp at q;subst q;simp
theorem yD {F:List (Nat×Nat×Pl)→Prop} {tk:Bool} {id len:Nat} {T:List (List α)} {rows:List (List PV)} (h:Tb cs L T) (hm:m=true→tk=true) (hr:rows=T.map (List.map f)) (hl:len=T.length) (hF:F [(k,id,.d 0 (cs.map some))]):wb (iy f m cs L) tk k id 0 len rows F:=by
 subst hl
 have hc:=h.len
 simp only[wb,iy,Nat.zero_add,List.drop_zero,List.length_map]
 refine⟨by omega,hm,cs.map some, ?_, ?_,hF⟩
 ·rw[List.take_of_length_le (by simp;omega),hr]
  refine kM (fun i hi=>⟨cs.getD i 0, ?_, ?_⟩) (by simp[hc])
  ·rw[List.getD_eq_getElem?_getD,List.getElem?_eq_getElem hi];rfl
  ·rw[lN,h.at_ i (by omega),List.getElem?_map,List.getD_eq_getElem?_getD,List.getElem?_eq_getElem (by omega)];rfl
 ·rw[List.filterMap_map]
  simpa[Function.comp_def]using h.nd
theorem Ud:qw (iy f m cs L)=m:=_root_.id rfl
def GwnL (v:AV) (h:Nat→Blk) (n:Nat) (f:α→PV) (cs:List Nat) (L:List (Option (List α))):Prop:=∃id,v=.ref id 0 cs.length∧h id=iy f false cs L∧id<n
theorem GwnL.out {v:AV} {n:Nat} (ho:GwnL v h n f cs L):∃id,v=.ref id 0 cs.length∧h id=iy f false cs L∧id<n:=ho
def Wo (b:Blk) (f:α→PV) (cs:List Nat) (L:List (Option (List α))):Prop:=b=iy f false cs L
theorem GX {n id len':Nat}:GwnL (.ref id 0 len') h n f cs L=(len'=cs.length∧Wo (h id) f cs L∧id<n):=by
 unfold GwnL Wo
 apply propext;constructor
 ·rintro⟨i,e1,e2,e3⟩;cases e1;exact⟨rfl,e2,e3⟩
 ·rintro⟨e1,e2,e3⟩;exact⟨id,by rw[e1],e2,e3⟩
theorem MH {cs':List Nat} {L':List (Option (List α))}:Wo (iy f false cs' L') f cs L=(iy f false cs' L'=iy f false cs L):=_root_.id rfl
theorem TC:Wo (.deep false [] []) f ([]:List Nat) ([]:List (Option (List α))):=_root_.id rfl
end
attribute [go_sem] Ow S5 L9 SY Ob N9 GO Tu Ej Eh Bo ES Kb Rm Rn VR VS VT Ud GX MH TC
end Go.Gl
namespace Go.Gl
open Go Go.Proofs
variable [Amb] [NoQ]
@[reducible] def El (w:World) (g:Nat):Amb:=⟨fun B=>if B=g then w.heap[B]? else none,false⟩
theorem VK {w:World} {g B:Nat} {o:Obj} (h:(El w g).tb B=some o):w.heap[B]? =some o:=by
 have h:(if B=g then w.heap[B]? else none)=some o:=h
 split at h
 ·exact h
 ·cases h
class TabA [Amb]:Prop where
 has:∀w:World,(∀B o,Amb.tb B=some o→w.heap[B]? =some o)→Lib.TabIs Tryz.prog w "internal/strconv.uint64pow10" .u64 Lib.pow10Tab
theorem OZ {w:World} {g:Nat} (hg:Tryz.prog.globalNamed "internal/strconv.uint64pow10" =some g) (h:Lib.TabIs Tryz.prog w "internal/strconv.uint64pow10" .u64 Lib.pow10Tab): @TabA (El w g):= @TabA.mk (El w g) (fun w' hw=>by
 unfold Lib.TabIs World.var? at h ⊢
 rw[hg,Option.bind_some]at h ⊢
 cases e:w.heap[g]? with
 |none=>rw[e]at h;cases h
 |some o=>rw[hw g o (show(if g=g then w.heap[g]? else none)=some o by rw[if_pos rfl];exact e)];rw[e]at h;exact h)
variable [TabA]
theorem vL:∀(m:Nat) (acc:List UInt8),m≠0→m<9223372036854775809→qR m acc=Lib.decDigits m++acc:=by
 intro m
 induction m using Nat.strongRecOn with
 |_ m ih=>
  intro acc h hb
  rw[kW h hb,Lib.decDigits]
  have e:yM ((m % 10:Nat):Int)=UInt8.ofNat (48+m % 10):=by unfold yM;congr 1
  split
  ·rw[show m/10=0 by omega,tW,e,show m % 10=m by omega];rfl
  ·rw[ih (m/10) (by omega) _ (by omega) (by omega),e,List.append_assoc];rfl
theorem sn {n:Int} (h0: -9223372036854775808≤n) (h1:n≤9223372036854775807):Lib.itoa n=fC n:=by
 unfold Lib.itoa fC
 by_cases hz:n=0
 ·subst hz;rw[if_neg (by omega),if_pos rfl,Lib.decDigits,dif_pos (by omega)];rfl
 ·rw[if_neg hz]
  by_cases hn:n<0
  ·rw[if_pos hn,if_pos hn,vL _ _ (by omega) (by omega),List.append_nil]
  ·rw[if_neg hn,if_neg hn,vL _ _ (by omega) (by omega),List.append_nil,show n.toNat=n.natAbs by omega]
theorem gk {n:Int} (h0: -9223372036854775808≤n) (h1:n≤9223372036854775807):(fC n).length≤21:=by
 rw[←sn h0 h1];exact Lib.itoa_length_le n h0 h1
theorem px (n:Int) (h0: -9223372036854775808≤n) (h1:n≤9223372036854775807):Fun Tryz.prog 88 [.int .i64 n] [.str (fC n)]:=by
 refine Fun.of_plain Tryz.func88 rfl rfl rfl ?_
 intro w F G vs hamb hv
 simp only[RepL]at hv
 obtain⟨a,vs1,rfl,ha,rfl⟩:=hv
 have ha:=wr ha
 subst ha
 refine(Tryz.strconv_Itoa n h0 h1 w (TabA.has w hamb)).mono fun e w' h=> ?_
 obtain⟨he,k,os,hw⟩:=h
 subst hw
 exact⟨by rw[he,sn h0 h1],Lib.below_grow _ _ (Nat.le_refl _) k os⟩
theorem dU (n:Int) (h0: -9223372036854775808≤n) (h1:n≤9223372036854775807):Fun Tryz.prog 41 [(.int .i64 (n))] [(.str (fC n))]:=by
 refine fO aR [2] Tryz.func41 ?_
 have cE1:= @px
 refine ax trivial ?_
 all_goals try(apply ai;repeat' first|exact ah|apply aa|(apply ak;intro zb hc)|(apply aj;intro zb)|intro j')<;>try apply al
def gj (l:List Int):List (List UInt8):=l.map fC
theorem sm {l:List Int} {k:Nat}:gj (l.take k)=(gj l).take k:=by simp[gj,List.map_take]
def kp (l:List Int):List UInt8:=if l=[]then[45]else Lib.join (gj l) [44]
theorem qt {l:List Int} (hb:∀x∈l, -9223372036854775808≤x∧x≤9223372036854775807):(Lib.join (gj l) [44]).length≤l.length*22:=by
 have:=eW (n:=21) (sep:=[44]) (l:=gj l) (fun x hx=>by
  obtain⟨y,hy,rfl⟩:=List.mem_map.1 hx
  exact gk (hb y hy).1 (hb y hy).2)
 simpa[gj]using this
theorem mG {l:List Int} (hb:∀x∈l, -9223372036854775808≤x∧x≤9223372036854775807):(kp l).length≤l.length*22+1:=by
 unfold kp;split
 ·simp
 ·have:=qt hb;omega
theorem pA {m0:Bool} (l:List Int) (hl:l.length≤1048576) (hb:∀x∈l, -9223372036854775808≤x∧x≤9223372036854775807):Fun Tryz.prog 60 [(.sl (.lent m0) (List.map (PV.int .i64) (l)))] [(.str (Lib.join (gj l) [44]))]:=by
 refine fO aR [2] Tryz.func60 ?_
 have cE1:= @cR;have cE2:= @bZ
 have b9:=qt hb
 have b8:(gj l).length=l.length:=by simp[gj]
 refine dE trivial ?_
 all_goals try(apply ai;repeat' first|exact ah|apply aa|(apply ak;intro zb hc)|(apply aj;intro zb)|intro j')<;>try apply al
 refine an (fun ms1 S1=>∃(k:Nat),S1.e 0=.p (.sl (.lent m0) (List.map (PV.int .i64) (l)))∧OwnL (S1.e 3) S1.h S1.n PV.str ((gj (l.take k)).length) (gj (l.take k))∧S1.e 4=.p (.int .i64 (k))∧(k≤l.length)∧ms1=l.length - k) ((fun(k:Nat)=>l.length - k) (0)) ?_ ⟨0,jK trivial ?_⟩
 all_goals try(apply ai;repeat' first|exact ah|apply aa|(apply ak;intro zb hc)|(apply aj;intro zb)|intro j')<;>try apply al
 rintro ms1 S1 ⟨k,h1_0,o1_3,h1_4,c1_0,hm1⟩
 obtain⟨i1_3,h1_3,b1_3,l1_3⟩:=o1_3.out
 have ni1_3:=aG (x:=i1_3) (n:=S1.n)
 have fL1:=(aa h1_0 (aa h1_4 (aa h1_3 (aa b1_3 ni1_3))))
 have b7:(gj (l.take k)).length=k:=by simp[gj];omega
 have b6:=fx (l:=gj l) (sep:=[44]) (k:=k)
 rw[←sm]at b6
 have q:k<l.length→ -9223372036854775808≤l.getD k 0∧l.getD k 0≤9223372036854775807:=fun h=>hb _ (ar h)
 refine ax fL1 ?_
 all_goals try(apply ai;repeat' first|exact ah|apply aa|(apply ak;intro zb hc)|(apply aj;intro zb)|intro j')<;>try apply al
 ·focus
   refine am ((fun(k:Nat)=>l.length - k) (k+1)) (dC fL1 ?_) ⟨k+1,dC fL1 ?_⟩
   all_goals try(apply ai;repeat' first|exact ah|apply aa|(apply ak;intro zb hc)|(apply aj;intro zb)|intro j')<;>try apply al
  all_goals simp[gj,az (d:=0) (show k<l.length by omega)]
 all_goals(rw[List.take_of_length_le (by omega)])
theorem uI {l:List Int} (h:(l.length:Int)=0):kp l=[45]:=by rw[kp,if_pos (List.eq_nil_of_length_eq_zero (by omega))]
theorem rY {l:List Int} (h:¬(l.length:Int)=0):kp l=Lib.join (gj l) [44]:=by rw[kp,if_neg (by rintro rfl;exact h rfl)]
theorem bF {m0:Bool} (l:List Int) (hl:l.length≤1048576) (hb:∀x∈l, -9223372036854775808≤x∧x≤9223372036854775807):Fun Tryz.prog 17 [(.sl (.lent m0) (List.map (PV.int .i64) (l)))] [(.str (kp l))]:=by
 refine fO aR [2] Tryz.func17 ?_
 have cE1:= @pA
 refine ax trivial ?_
 all_goals try(apply ai;repeat' first|exact ah|apply aa|(apply ak;intro zb hc)|(apply aj;intro zb)|intro j')<;>try apply al
 ·rw[uI hc]
 ·rw[rY hc]
theorem bJ {m0:Bool} (l:List Int) (hl:l.length≤1048576) (hb:∀x∈l, -9223372036854775808≤x∧x≤9223372036854775807):Fun Tryz.prog 16 [(.sl (.lent m0) (List.map (PV.int .i64) (l)))] [(.str (kp l))]:=by
 refine fO aR [2] Tryz.func16 ?_
 have cE1:= @dU;have cE2:= @aQ
 have b9:=qt hb
 have b8:(gj l).length=l.length:=by simp[gj]
 refine ax trivial ?_
 all_goals try(apply ai;repeat' first|exact ah|apply aa|(apply ak;intro zb hc)|(apply aj;intro zb)|intro j')<;>try apply al
 ·rw[uI hc]
 ·have hn:=hc
  rw[rY hc]
  refine an (fun ms1 S1=>∃(k:Nat),S1.e 10=.p (.sl (.lent m0) (List.map (PV.int .i64) (l)))∧OwnL (S1.e 3) S1.h S1.n PV.str ((gj (l.take k)).length) (gj (l.take k))∧S1.e 11=.p (.int .i64 (l.length))∧S1.e 12=.p (.int .i64 (k))∧(k≤l.length)∧ms1=l.length - k) ((fun(k:Nat)=>l.length - k) (0)) ?_ ⟨0,jK trivial ?_⟩
  all_goals try(apply ai;repeat' first|exact ah|apply aa|(apply ak;intro zb hc)|(apply aj;intro zb)|intro j')<;>try apply al
  rintro ms1 S1 ⟨k,h1_10,o1_3,h1_11,h1_12,c1_0,hm1⟩
  obtain⟨i1_3,h1_3,b1_3,l1_3⟩:=o1_3.out
  have ni1_3:=aG (x:=i1_3) (n:=S1.n)
  have fL1:=(aa h1_10 (aa h1_11 (aa h1_12 (aa h1_3 (aa b1_3 ni1_3)))))
  have b7:(gj (l.take k)).length=k:=by simp[gj];omega
  have b6:=fx (l:=gj l) (sep:=[44]) (k:=k)
  rw[←sm]at b6
  have q:k<l.length→ -9223372036854775808≤l.getD k 0∧l.getD k 0≤9223372036854775807:=fun h=>hb _ (ar h)
  refine ax fL1 ?_
  all_goals try(apply ai;repeat' first|exact ah|apply aa|(apply ak;intro zb hc)|(apply aj;intro zb)|intro j')<;>try apply al
  ·focus
    refine am ((fun(k:Nat)=>l.length - k) (k+1)) (dC fL1 ?_) ⟨k+1,dC fL1 ?_⟩
    all_goals try(apply ai;repeat' first|exact ah|apply aa|(apply ak;intro zb hc)|(apply aj;intro zb)|intro j')<;>try apply al
   all_goals simp[gj,az (d:=0) (show k<l.length by omega)]
  all_goals(rw[List.take_of_length_le (by omega)])
end Go.Gl
namespace Go.Gl
open Go Go.Proofs
variable [Amb] [NoQ]
variable [TabA]
def fN (L:List (List Int)):List (List UInt8):=L.map kp
def rq (L:List (List Int)):List UInt8:=if L=[]then[45]else Lib.join (fN L) [47]
theorem mM:∀{L:List (List Int)},(∀l∈L,∀x∈l, -9223372036854775808≤x∧x≤9223372036854775807)→(Lib.joinTail [47] (fN L)).length≤22*mc (L.map List.length)+2*L.length
 |[],_=>by simp[Lib.joinTail,fN]
 |l::L,h=>by
  have h1:=mM (L:=L) fun l hl=>h l (by simp[hl])
  have h2:=mG (h l (by simp))
  have e:(Lib.joinTail [47] (fN (l::L)))=[47]++kp l++Lib.joinTail [47] (fN L):=by simp[Lib.joinTail,fN]
  rw[e];simp only[List.length_append,List.map_cons,mc,List.length_cons,List.length_nil];omega
theorem pt {L:List (List Int)} (h:∀l∈L,∀x∈l, -9223372036854775808≤x∧x≤9223372036854775807):(Lib.join (fN L) [47]).length≤22*mc (L.map List.length)+2*L.length:=by
 cases L with
 |nil=>simp[fN,Lib.join_nil]
 |cons l L=>
  have h1:=mM (L:=L) fun l hl=>h l (by simp[hl])
  have h2:=mG (h l (by simp))
  have e:Lib.join (fN (l::L)) [47]=kp l++Lib.joinTail [47] (fN L):=by simp[fN,Lib.join_cons]
  rw[e,List.length_append,List.map_cons,mc,List.length_cons];omega
theorem lZ {L:List (List Int)} (h:∀l∈L,∀x∈l, -9223372036854775808≤x∧x≤9223372036854775807):(rq L).length≤22*mc (L.map List.length)+2*L.length+1:=by
 unfold rq;split
 ·simp
 ·have:=pt h;omega
theorem rQ {L:List (List Int)} {k:Nat}:fN (L.take k)=(fN L).take k:=by simp[fN,List.map_take]
theorem ug {L:List (List Int)} (h:(L.length:Int)=0):rq L=[45]:=by rw[rq,if_pos (List.eq_nil_of_length_eq_zero (by omega))]
theorem rP {L:List (List Int)} (h:¬(L.length:Int)=0):rq L=Lib.join (fN L) [47]:=by rw[rq,if_neg (by rintro rfl;exact h rfl)]
theorem bE {e0 m0:Bool} (L:List (List Int)) (hL:L.length≤1048576) (hl:∀l∈L,l.length≤1048576) (hs:mc (L.map List.length)≤1048576) (hb:∀l∈L,∀x∈l, -9223372036854775808≤x∧x≤9223372036854775807):Fun Tryz.prog 19 [(.sl (.lent m0) (List.map (bt e0) (L)))] [(.str (rq L))]:=by
 refine fO aR [2] Tryz.func19 ?_
 have cE1:= @bF;have cE2:= @bZ
 have b9:=pt hb
 refine dE trivial ?_
 all_goals try(apply ai;repeat' first|exact ah|apply aa|(apply ak;intro zb hc)|(apply aj;intro zb)|intro j')<;>try apply al
 refine an (fun ms1 S1=>∃(k:Nat),S1.e 0=.p (.sl (.lent m0) (List.map (bt e0) (L)))∧OwnL (S1.e 3) S1.h S1.n PV.str ((fN (L.take k)).length) (fN (L.take k))∧S1.e 4=.p (.int .i64 (k))∧(k≤L.length)∧ms1=L.length - k) ((fun(k:Nat)=>L.length - k) (0)) ?_ ⟨0,dI trivial ?_⟩
 all_goals try(apply ai;repeat' first|exact ah|apply aa|(apply ak;intro zb hc)|(apply aj;intro zb)|intro j')<;>try apply al
 rintro ms1 S1 ⟨k,h1_0,o1_3,h1_4,c1_0,hm1⟩
 obtain⟨i1_3,h1_3,b1_3,l1_3⟩:=o1_3.out
 have ni1_3:=aG (x:=i1_3) (n:=S1.n)
 have fL1:=(aa h1_0 (aa h1_4 (aa h1_3 (aa b1_3 ni1_3))))
 have b7:(fN (L.take k)).length=k:=by simp[fN];omega
 have b6:=fx (l:=fN L) (sep:=[47]) (k:=k)
 rw[←rQ]at b6
 have q:k<L.length→∀x∈L.getD k [], -9223372036854775808≤x∧x≤9223372036854775807:=fun h=>hb _ (ar h)
 have q2:k<L.length→(L.getD k []).length≤1048576:=fun h=>hl _ (ar h)
 refine dE fL1 ?_
 all_goals try(apply ai;repeat' first|exact ah|apply aa|(apply ak;intro zb hc)|(apply aj;intro zb)|intro j')<;>try apply al
 all_goals try exact q hc
 all_goals try exact q2 hc
 all_goals try exact gZ
 ·focus
   refine am ((fun(k:Nat)=>L.length - k) (k+1)) (dC fL1 ?_) ⟨k+1,dC fL1 ?_⟩
   all_goals try(apply ai;repeat' first|exact ah|apply aa|(apply ak;intro zb hc)|(apply aj;intro zb)|intro j')<;>try apply al
  all_goals simp[fN,az (d:=[]) (show k<L.length by omega)]
 ·rw[ug (by omega)]
 ·rw[rP (by omega),List.take_of_length_le (by omega)]
theorem bI {e0 m0:Bool} (L:List (List Int)) (hL:L.length≤1048576) (hl:∀l∈L,l.length≤1048576) (hs:mc (L.map List.length)≤1048576) (hb:∀l∈L,∀x∈l, -9223372036854775808≤x∧x≤9223372036854775807):Fun Tryz.prog 18 [(.sl (.lent m0) (List.map (bt e0) (L)))] [(.str (rq L))]:=by
 refine fO aR [2] Tryz.func18 ?_
 have cE1:= @bJ;have cE2:= @aQ
 have b9:=pt hb
 refine ax trivial ?_
 all_goals try(apply ai;repeat' first|exact ah|apply aa|(apply ak;intro zb hc)|(apply aj;intro zb)|intro j')<;>try apply al
 ·rw[ug hc]
 ·rw[rP hc]
  have hn:=hc
  refine an (fun ms1 S1=>∃(k:Nat),S1.e 10=.p (.sl (.lent m0) (List.map (bt e0) (L)))∧OwnL (S1.e 3) S1.h S1.n PV.str ((fN (L.take k)).length) (fN (L.take k))∧S1.e 11=.p (.int .i64 (L.length))∧S1.e 12=.p (.int .i64 (k))∧(k≤L.length)∧ms1=L.length - k) ((fun(k:Nat)=>L.length - k) (0)) ?_ ⟨0,dI trivial ?_⟩
  all_goals try(apply ai;repeat' first|exact ah|apply aa|(apply ak;intro zb hc)|(apply aj;intro zb)|intro j')<;>try apply al
  rintro ms1 S1 ⟨k,h1_10,o1_3,h1_11,h1_12,c1_0,hm1⟩
  obtain⟨i1_3,h1_3,b1_3,l1_3⟩:=o1_3.out
  have ni1_3:=aG (x:=i1_3) (n:=S1.n)
  have fL1:=(aa h1_10 (aa h1_11 (aa h1_12 (aa h1_3 (aa b1_3 ni1_3)))))
  have b7:(fN (L.take k)).length=k:=by simp[fN];omega
  have b6:=fx (l:=fN L) (sep:=[47]) (k:=k)
  rw[←rQ]at b6
  have q:k<L.length→∀x∈L.getD k [], -9223372036854775808≤x∧x≤9223372036854775807:=fun h=>hb _ (ar h)
  have q2:k<L.length→(L.getD k []).length≤1048576:=fun h=>hl _ (ar h)
  refine dE fL1 ?_
  all_goals try(apply ai;repeat' first|exact ah|apply aa|(apply ak;intro zb hc)|(apply aj;intro zb)|intro j')<;>try apply al
  all_goals try exact q hc
  all_goals try exact q2 hc
  all_goals try exact gZ
  ·focus
    refine am ((fun(k:Nat)=>L.length - k) (k+1)) (dC fL1 ?_) ⟨k+1,dC fL1 ?_⟩
    all_goals try(apply ai;repeat' first|exact ah|apply aa|(apply ak;intro zb hc)|(apply aj;intro zb)|intro j')<;>try apply al
   all_goals simp[fN,az (d:=[]) (show k<L.length by omega)]
  ·rw[List.take_of_length_le (by omega)]
end Go.Gl
namespace Go.Gl
open Go Go.Proofs
variable [Amb] [NoQ]
def fstN (n:Int):List Int→Nat
 |[]=>0
 |x::l=>if x<n then fstN n l+1 else 0
theorem o9 {n:Int}:∀{l:List Int},fstN n l≤l.length
 |[]=>Nat.le_refl _
 |x::l=>by have:=o9 (n:=n) (l:=l);rw[fstN,List.length_cons];split<;>omega
theorem sk {n:Int}:∀{l:List Int},(∀j,j<fstN n l→l.getD j 0<n)∧(fstN n l<l.length→¬l.getD (fstN n l) 0<n)
 |[]=>by simp[fstN]
 |x::l=>by
  obtain⟨h1,h2⟩:=sk (n:=n) (l:=l)
  rw[fstN]
  by_cases q:x<n
  ·rw[if_pos q]
   refine⟨fun j hj=> ?_,fun h=> ?_⟩
   ·cases j with
    |zero=>exact q
    |succ j=>exact h1 j (by omega)
   ·exact h2 (by simpa using h)
  ·rw[if_neg q]
   exact⟨fun j hj=>absurd hj (by omega),fun _=>q⟩
def bR:List (List Int)→Int→List (List Int)×Nat
 |[],n=>([[n]],0)
 |l::T,n=>if fstN n l=l.length then((l++[n])::T,0)else(l.set (fstN n l) n::(bR T (l.getD (fstN n l) 0)).1,(bR T (l.getD (fstN n l) 0)).2+1)
theorem ji:∀{T:List (List Int)} {n:Int},(bR T n).2≤T.length∧(bR T n).1.length=if(bR T n).2=T.length then T.length+1 else T.length
 |[],n=>by simp[bR]
 |l::T,n=>by
  rw[bR]
  split
  ·simp
  ·have:=ji (T:=T) (n:=l.getD (fstN n l) 0)
   simp only[List.length_cons]
   refine⟨by omega, ?_⟩
   rw[this.2];split<;>split<;>omega
def aX (p:List Int):Nat→List (List Int)×List (List Int)
 |0=>([],[])
 |k+1=>((bR (aX p k).1 (p.getD k 0)).1,if(bR (aX p k).1 (p.getD k 0)).2=(aX p k).2.length then(aX p k).2++[[(k:Int)+1]]else(aX p k).2.set (bR (aX p k).1 (p.getD k 0)).2 ((aX p k).2.getD (bR (aX p k).1 (p.getD k 0)).2 []++[(k:Int)+1]))
theorem jp {p:List Int}:∀{k:Nat},(aX p k).1.length=(aX p k).2.length
 |0=>rfl
 |k+1=>by
  have h:=jp (p:=p) (k:=k)
  have h2:=ji (T:=(aX p k).1) (n:=p.getD k 0)
  rw[aX]
  simp only[]
  rw[h2.2,h]
  split<;>simp
theorem uA {B:Nat}:∀{T:List (List Int)} {n:Int},(∀l∈T,l.length≤B)→∀l∈(bR T n).1,l.length≤B+1
 |[],n,_,l,hl=>by simp[bR]at hl;subst hl;simp
 |r::T,n,h,l,hl=>by
  have h0:=h r List.mem_cons_self
  rw[bR]at hl
  split at hl
  ·rcases List.mem_cons.1 hl with q|q
   ·subst q;simp;omega
   ·have:=h l (List.mem_cons_of_mem _ q);omega
  ·rcases List.mem_cons.1 hl with q|q
   ·subst q;simp;omega
   ·exact uA (fun x hx=>h x (List.mem_cons_of_mem _ hx)) l q
theorem tH {p:List Int}:∀{k:Nat},(aX p k).1.length≤k∧(∀l∈(aX p k).1,l.length≤k)∧∀l∈(aX p k).2,l.length≤k
 |0=>by simp[aX]
 |k+1=>by
  obtain⟨h1,h2,h3⟩:=tH (p:=p) (k:=k)
  have g:=ji (T:=(aX p k).1) (n:=p.getD k 0)
  rw[aX]
  refine⟨by simp only[];rw[g.2];split<;>omega,uA h2,fun l hl=> ?_⟩
  simp only[]at hl
  split at hl
  ·rcases List.mem_append.1 hl with q|q
   ·have:=h3 l q;omega
   ·simp at q;subst q;simp
  ·rcases List.mem_or_eq_of_mem_set hl with q|q
   ·have:=h3 l q;omega
   ·subst q
    rename_i hr
    have hlen:=jp (p:=p) (k:=k)
    have:=h3 _ (ar (d:=[]) (show(bR (aX p k).1 (p.getD k 0)).2<(aX p k).2.length by omega))
    rw[List.length_append,List.length_singleton];omega
section
variable {P:Program} {h:Nat→Blk} {k:Nat} {C:R→Prop}
theorem v_callTe {α:Type} {g:α→PV} {L:List (List α)} {kd:IntKind} {n:Int} {f:FuncId} {c:List PV} {ag:List Arg} {os:List (Option (List PV))} {rd:List Nat} {ms:List (Option (Nat×Option Nat))} {id:Nat}
  (hf:CallT P true f (.mu false c::ag) (none::os) [.dl (L.map (List.map g)),.int kd n]) (hn:(ms.all Option.isNone)=true) (hid:id∉rd)
  (hc:C ⟨.tup [.ref k 0 L.length,.p (.int kd n)],[(id,.dead),(k,dk g (qw (h id)) L)],id::rd⟩):Pk P h k f C (.mu false c::ag) rd (some (id,none)::ms):=by
 refine kL hf hn hid ?_
 simp only[List.getElem?_cons_zero]
 have e1:impAll k [.dl (L.map (List.map g)),.int kd n]=.tup [.ref k 0 L.length,.p (.int kd n)]:=by simp[impAll,imps,imp,imp1]
 have e2:impWs (true&&qw (h id)) k [.dl (L.map (List.map g)),.int kd n]=[(k,dk g (qw (h id)) L)]:=by simp[impWs,impW,impW1,dk]
 rw[e1,e2]
 exact hc
theorem OC {α:Type} {f:α→PV} {m:Bool} {L:List (List α)} {id r len:Nat} {ys:List PV} {rd:List Nat}:OX (dk f m L) id r len k C ys rd=(r<L.length∧len=(L.getD r []).length∧id∉rd∧len+ys.length≤1099511627776∧C ⟨.ref k 0 (len+ys.length),[(id,iy f m (List.range L.length) ((L.map some).set r none)),(k,.live m ((L.getD r []).map f++ys))],id::rd⟩):=by
 rw[NQ,Eh,List.getElem?_map]
 by_cases hr:r<L.length
 ·rw[List.getElem?_eq_getElem hr,Option.map_some,Ej]
  have e:L.getD r []=L[r]:=by rw[List.getD_eq_getElem?_getD,List.getElem?_eq_getElem hr];rfl
  simp only[e,hr,true_and]
 ·rw[List.getElem?_eq_none (by omega)];simp[hr,Wy]
theorem MS {id off len:Nat} {rows:List (List PV)} {kd kd':IntKind} {n n':Int}:cW true h k [.ref id off len,.p (.int kd n)] [.dl rows,.int kd' n'] F0=(wb (h id) true k id off len rows FT∧kd=kd'∧n=n'):=by
 simp only[cW,fin,dt,wb]
 cases h id with
 |deep m cs rs=>
  simp only[AV.p.injEq,PV.int.injEq,List.append_nil,F0,FT,List.pairwise_cons,List.not_mem_nil,false_imp_iff,implies_true,List.Pairwise.nil,and_true,_root_.and_true,and_self]
  apply propext;constructor
  ·rintro⟨h1,h2,sel,h3,h4,h5⟩;exact⟨⟨h1,h2,sel,h3,h4⟩,h5.1,h5.2⟩
  ·rintro⟨⟨h1,h2,sel,h3,h4⟩,h5,h6⟩;exact⟨h1,h2,sel,h3,h4,h5,h6⟩
 |_=>simp
theorem JQ {m m':Bool} {cs:List Nat} {L:List (Option (List Int))} {n:Int} {id off id' off' len:Nat}:jY (iy (PV.int .i64) m cs L) (.live m' [PV.int .i64 n]) id off id' off' len C=((m'=true→m=true)∧off'=0∧len=1∧off<cs.length∧id'≠id∧C ⟨.p .any,[(id',.dead),(id,iy (PV.int .i64) m (cs.set off L.length) (L++[some [n]]))],[id,id']⟩):=Bo (l:=[n])
theorem VV {m:Bool} {U:List (List Int)} {v:Int} {id len j n:Nat}:yS (dk (PV.int .i64) m U) (.deep false [.row 0] [some [PV.int .i64 v]]) id len j n k C=yS (dk (PV.int .i64) m U) (dk (PV.int .i64) false [[v]]) id len j n k C:=_root_.id rfl
end
attribute [go_sem] OC VV MS JQ
def nX:FuncId→List Bool:=fun f=>if f=153 then[true]else if f=4294967297 then[true,false,false,false]else[]
theorem BR {f:FuncId}:nX f=if f=153 then[true]else if f=4294967297 then[true,false,false,false]else[]:=_root_.id rfl
theorem yZ:fJ nX=false∧ga nX=true∧f9 nX=false∧f8 nX=false∧gb nX=false:=⟨rfl,rfl,rfl,rfl,rfl⟩
attribute [go_sem] BR yZ
theorem sx {T:List (List Int)} {r:Nat} (h:r<T.length):T.drop r=T.getD r []::T.drop (r+1):=by
 rw[List.getD_eq_getElem?_getD,List.getElem?_eq_getElem h,Option.getD_some,List.drop_eq_getElem_cons h]
theorem PT {β:Type} {l:List β} {i:Nat} {x:β} (h:i<l.length):(l.set i x).take (i+1)=l.take i++[x]:=by
 rw[List.set_eq_take_append_cons_drop,if_pos h,List.take_append,List.take_of_length_le (by simp;omega),List.length_take,Nat.min_eq_left (by omega),Nat.add_sub_cancel_left];rfl
theorem IN {β:Type} {l:List β} {i:Nat} {x:β}:(l.set i x).drop (i+1)=l.drop (i+1):=by rw[List.drop_set,if_pos (by omega)]
theorem JM {β:Type} {l:List β} {i:Nat} {x:β} (h:i<l.length):l.set i x=l.take i++x::l.drop (i+1):=by rw[List.set_eq_take_append_cons_drop,if_pos h]
theorem Ro {n i:Nat} (h:i<n):(List.range n).getD i 0=i:=by rw[List.getD_eq_getElem?_getD,List.getElem?_range h];rfl
theorem ry (T:List (List Int)) (n:Int) (hT:T.length≤1000) (hl:∀l∈T,l.length≤1000):
  CallT Tryz.prog true 153 [.mu false [.dl (List.map (List.map (PV.int .i64)) T)],.pv (.int .i64 n)] [none,none] [.dl (List.map (List.map (PV.int .i64)) (bR T n).1),.int .i64 ((bR T n).2:Int)]:=by
 refine CallT.of (sg:=nX) (ts:=[4,5]) mo Tryz.func153 rfl rfl rfl rfl (by kernel_rfl) (by simp only[go_sem]) rfl (by simp only[go_sem]) ?_
 refine lp trivial ?_
 all_goals try(apply ai;repeat' first|exact ah|apply aa|(apply ak;intro zb hc)|(apply aj;intro zb)|intro j')<;>try apply al
 refine an (fun ms1 S1=>∃(r:Nat) (U:List (List Int)) (v:Int),S1.e 0=.ref 0 0 (U).length∧S1.h 0=dk (PV.int .i64) true (U)∧0<S1.n∧S1.e 1=.p (.int .i64 (v))∧S1.e 6=.p (.int .i64 (r))∧(r≤T.length)∧(U.length=T.length)∧(U.drop r=T.drop r)∧((bR T n).1=U.take r++(bR (T.drop r) v).1)∧((bR T n).2=r+(bR (T.drop r) v).2)∧ms1=T.length - r) ((fun(r:Nat) (U:List (List Int)) (v:Int)=>T.length - r) (0) (T) (n)) ?_ ⟨0,T,n,dC trivial ?_⟩
 all_goals try(apply ai;repeat' first|exact ah|apply aa|(apply ak;intro zb hc)|(apply aj;intro zb)|intro j')<;>try apply al
 rintro ms1 S1 ⟨r,U,v,h1_0,b1_0,l1_0,h1_1,h1_6,c1_0,c1_1,c1_2,c1_3,c1_4,hm1⟩
 have n0:=aG (x:=0) (n:=S1.n)
 have fL1:=(aa h1_0 (aa b1_0 (aa h1_1 (aa h1_6 n0))))
 ·by_cases hr:r<T.length
  ·have d1:T.drop r=U.getD r []::T.drop (r+1):=by
    rw[←c1_2,sx (by omega),show U.drop (r+1)=T.drop (r+1)by rw[←List.drop_drop,←List.drop_drop,c1_2]]
   have d2:(U.getD r []).length≤1000:=by
    refine hl _ ?_
    have:U.getD r []∈T.drop r:=by rw[d1];exact List.mem_cons_self
    exact List.mem_of_mem_drop this
   obtain⟨row,hrow⟩:∃row,U.getD r []=row:=⟨_,rfl⟩
   rw[hrow]at d1 d2
   obtain⟨s1,s2⟩:=sk (n:=v) (l:=row)
   have s3:=o9 (n:=v) (l:=row)
   refine lp (aa fL1 @hrow) ?_
   all_goals try(apply ai;repeat' first|exact ah|apply aa|(apply ak;intro zb hc)|(apply aj;intro zb)|intro j')<;>try apply al
   refine an (fun ms2 S2=>∃(c:Nat),S2.e 0=.ref 0 0 (U).length∧S2.h 0=dk (PV.int .i64) true (U)∧0<S2.n∧S2.e 1=.p (.int .i64 (v))∧S2.e 6=.p (.int .i64 (r))∧S2.e 7=.p (.int .i64 (c))∧(c≤fstN v row)∧S1.n≤S2.n∧ms2=fstN v row - c) ((fun(c:Nat)=>fstN v row - c) (0)) ?_ ⟨0,dC fL1 ?_⟩
   all_goals try(apply ai;repeat' first|exact ah|apply aa|(apply ak;intro zb hc)|(apply aj;intro zb)|intro j')<;>try apply al
   rintro ms2 S2 ⟨c,h2_0,b2_0,l2_0,h2_1,h2_6,h2_7,c2_0,u2_0,hm2⟩
   have n0:=aG (x:=0) (n:=S2.n)
   have fL2:=(aa h2_0 (aa b2_0 (aa h2_1 (aa h2_6 (aa h2_7 n0)))))
   ·by_cases hc:c<fstN v row
    ·have s4:=s1 c hc
     refine lp (aa fL2 @hrow) ?_
     all_goals try(apply ai;repeat' first|exact ah|apply aa|(apply ak;intro zb hc)|(apply aj;intro zb)|intro j')<;>try apply al
     focus
      refine am ((fun(c:Nat)=>fstN v row - c) (c+1)) (dC fL2 ?_) ⟨c+1,dC fL2 ?_⟩
      all_goals try(apply ai;repeat' first|exact ah|apply aa|(apply ak;intro zb hc)|(apply aj;intro zb)|intro j')<;>try apply al
    ·obtain rfl:c=fstN v row:=by omega
     by_cases he:fstN v row=row.length
     ·have p1:bR (T.drop r) v=((row++[v])::T.drop (r+1),0):=by rw[d1,bR,if_pos he]
      rw[p1]at c1_3 c1_4
      have p2:(bR T n).1=U.set r (row++[v]):=by
       rw[c1_3,JM (by omega),show U.drop (r+1)=T.drop (r+1)by rw[←List.drop_drop,←List.drop_drop,c1_2]]
      have p3:=lY (Bg (T:=U)) (i:=r) (l:=row++[v]) (by omega)
      rw[Ro (by omega)]at p3
      refine lp (aa fL2 (aa @hrow @he)) ?_
      all_goals try(apply ai;repeat' first|exact ah|apply aa|(apply ak;intro zb hc)|(apply aj;intro zb)|intro j')<;>try apply al
      ·exact yD (T:=U.set r (row++[v])) p3 (fun h=>h) (by rw[p2]) (by simp) trivial
     ·have s4:=s2 (by omega)
      have p1:bR (T.drop r) v=(row.set (fstN v row) v::(bR (T.drop (r+1)) (row.getD (fstN v row) 0)).1,(bR (T.drop (r+1)) (row.getD (fstN v row) 0)).2+1):=by rw[d1,bR,if_neg he]
      rw[p1]at c1_3 c1_4
      refine lp (aa fL2 @hrow) ?_
      all_goals try(apply ai;repeat' first|exact ah|apply aa|(apply ak;intro zb hc)|(apply aj;intro zb)|intro j')<;>try apply al
      focus
       refine am ((fun(r:Nat) (U:List (List Int)) (v:Int)=>T.length - r) (r+1) (U.set r (row.set (fstN v row) v)) (row.getD (fstN v row) 0)) (dC fL2 ?_) ⟨r+1,U.set r (row.set (fstN v row) v),row.getD (fstN v row) 0,dC fL2 ?_⟩
       all_goals try(apply ai;repeat' first|exact ah|apply aa|(apply ak;intro zb hc)|(apply aj;intro zb)|intro j')<;>try apply al
      all_goals first|(rw[IN,←List.drop_drop,←List.drop_drop,c1_2];done)|(rw[PT (by omega),c1_3];simp;done)|(rw[c1_4];omega)|trace_state
  ·have p1:bR (T.drop r) v=([[v]],0):=by rw[List.drop_of_length_le (by omega),bR]
   rw[p1]at c1_3 c1_4
   rw[List.take_of_length_le (by omega)]at c1_3
   refine lp fL1 ?_
   all_goals try(apply ai;repeat' first|exact ah|apply aa|(apply ak;intro zb hc)|(apply aj;intro zb)|intro j')<;>try apply al
   ·rw[List.take_of_length_le (by simp),c1_3]
theorem aM {m0:Bool} (p:List Int) (h8:p.length≤8):Fun Tryz.prog 113 [(.sl (.lent m0) (List.map (PV.int .i64) (p)))] [(.dl (List.map (List.map (PV.int .i64)) ((aX p p.length).1))),(.dl (List.map (List.map (PV.int .i64)) ((aX p p.length).2)))]:=by
 refine fO nX [2,3] Tryz.func113 ?_
 refine Wt trivial ?_
 all_goals try(apply ai;repeat' first|exact ah|apply aa|(apply ak;intro zb hc)|(apply aj;intro zb)|intro j')<;>try apply al
 refine an (fun ms1 S1=>∃(k:Nat) (cs:List Nat) (L:List (Option (List Int))),S1.e 0=.p (.sl (.lent m0) (List.map (PV.int .i64) (p)))∧DwnL (S1.e 4) S1.h S1.n (PV.int .i64) (((aX p k).1).length) ((aX p k).1)∧GwnL (S1.e 5) S1.h S1.n (PV.int .i64) (cs) (L)∧S1.e 6=.p (.int .i64 (k))∧(k≤p.length)∧(Tb cs L (aX p k).2)∧NId (S1.e 5) (S1.e 4)∧ms1=p.length - k) ((fun(k:Nat) (cs:List Nat) (L:List (Option (List Int)))=>p.length - k) (0) ([]) ([])) ?_ ⟨0,[],[],dC trivial ?_⟩
 all_goals try(apply ai;repeat' first|exact ah|apply aa|(apply ak;intro zb hc)|(apply aj;intro zb)|intro j')<;>try apply al
 rintro ms1 S1 ⟨k,cs,L,h1_0,o1_4,o1_5,h1_6,c1_0,c1_1,u1_0,hm1⟩
 obtain⟨i1_4,h1_4,b1_4,l1_4⟩:=o1_4.out
 obtain⟨i1_5,h1_5,b1_5,l1_5⟩:=o1_5.out
 have k1_0:=(u1_0).out h1_5 h1_4
 have ni1_4:=aG (x:=i1_4) (n:=S1.n)
 have ni1_5:=aG (x:=i1_5) (n:=S1.n)
 have di1_4i1_5:=cQ (x:=i1_4) (y:=i1_5)
 have fL1:=(aa h1_0 (aa h1_6 (aa h1_4 (aa b1_4 (aa h1_5 (aa b1_5 (aa ni1_4 (aa ni1_5 di1_4i1_5))))))))
 ·obtain⟨i1,i2,i3⟩:=tH (p:=p) (k:=k)
  have i4:=jp (p:=p) (k:=k)
  by_cases hk:k<p.length
  ·have hT:=c1_1.len
   have q1:=ji (T:=(aX p k).1) (n:=p.getD k 0)
   have q2:aX p (k+1)=((bR (aX p k).1 (p.getD k 0)).1,if(bR (aX p k).1 (p.getD k 0)).2=(aX p k).2.length then(aX p k).2++[[(k:Int)+1]]else(aX p k).2.set (bR (aX p k).1 (p.getD k 0)).2 ((aX p k).2.getD (bR (aX p k).1 (p.getD k 0)).2 []++[(k:Int)+1])):=rfl
   have cp:=ry (aX p k).1 (p.getD k 0) (by omega) (fun l hl=>by have:=i2 l hl;omega)
   generalize hA:(aX p k).1=TA at*
   generalize hB:(aX p k).2=TB at*
   generalize hP:bR TA (p.getD k 0)=W at*
   obtain⟨TA',r⟩:=W
   simp only[]at q1 q2 cp
   by_cases hr:r=TB.length
   ·rw[if_pos hr]at q2
    have g0:((r:Int)=cs.length)=True:=eq_true (by omega)
    have t1:=sU (l:=([]:List Int)) c1_1
    have t2:=lY (i:=r) (l:=[(k:Int)+1]) t1 (by simp;omega)
    have e1:(cs++[L.length]).getD r 0=L.length:=Dn (by omega)
    have e2:(L++[some ([]:List Int)])[L.length]? =some (some []):=Dl rfl
    rw[e1]at t2
    have e9:(TB++[([]:List Int)]).set r [(k:Int)+1]=TB++[[(k:Int)+1]]:=by subst hr;simp
    rw[e9]at t2
    have cM1:= @cp
    refine Wt (aa fL1 (aa @g0 (aa @e1 @e2))) ?_
    all_goals try(apply ai;repeat' first|exact ah|apply aa|(apply ak;intro zb hc)|(apply aj;intro zb)|intro j')<;>try apply al
    focus
     refine am ((fun(k:Nat) (cs:List Nat) (L:List (Option (List Int)))=>p.length - k) (k+1) ((cs++[L.length]).set r ((L++[some []]).set L.length none).length) ((L++[some []]).set L.length none++[some [(k:Int)+1]])) (dC fL1 ?_) ⟨k+1,(cs++[L.length]).set r ((L++[some []]).set L.length none).length,(L++[some []]).set L.length none++[some [(k:Int)+1]],dC fL1 ?_⟩
     all_goals try(apply ai;repeat' first|exact ah|apply aa|(apply ak;intro zb hc)|(apply aj;intro zb)|intro j')<;>try apply al
    all_goals first|(rw[q2];exact t2)|(rw[q2];done)|(rw[q2];rfl)|trace_state
   ·rw[if_neg hr]at q2
    have g0:((r:Int)=cs.length)=False:=eq_false (by omega)
    have e2:=c1_1.at_ r (by omega)
    have t2:=lY (i:=r) (l:=TB.getD r []++[(k:Int)+1]) c1_1 (by omega)
    have e3:=i3 (TB.getD r []) (ar (by omega))
    have cM1:= @cp
    refine Wt (aa fL1 (aa @g0 @e2)) ?_
    all_goals try(apply ai;repeat' first|exact ah|apply aa|(apply ak;intro zb hc)|(apply aj;intro zb)|intro j')<;>try apply al
    focus
     refine am ((fun(k:Nat) (cs:List Nat) (L:List (Option (List Int)))=>p.length - k) (k+1) (cs.set r (L.set (cs.getD r 0) none).length) (L.set (cs.getD r 0) none++[some (TB.getD r []++[(k:Int)+1])])) (dC fL1 ?_) ⟨k+1,cs.set r (L.set (cs.getD r 0) none).length,L.set (cs.getD r 0) none++[some (TB.getD r []++[(k:Int)+1])],dC fL1 ?_⟩
     all_goals try(apply ai;repeat' first|exact ah|apply aa|(apply ak;intro zb hc)|(apply aj;intro zb)|intro j')<;>try apply al
    all_goals first|(rw[q2];exact t2)|(rw[q2];done)|(rw[q2];rfl)|trace_state
  ·obtain rfl:k=p.length:=by omega
   have cM1:=trivial
   refine Wt fL1 ?_
   all_goals try(apply ai;repeat' first|exact ah|apply aa|(apply ak;intro zb hc)|(apply aj;intro zb)|intro j')<;>try apply al
   refine yD c1_1 (fun h=>by cases h) rfl c1_1.len ?_
   simp only[FK,FL,cW,F0,List.nil_append,List.cons_append,List.append_nil]
   refine List.Pairwise.cons (fun q hq=> ?_) (List.pairwise_singleton _ _)
   rw[List.mem_singleton]at hq
   subst hq
   exact .inl (show i1_4≠i1_5 by omega)
 all_goals exact Tb.nil
end Go.Gl
