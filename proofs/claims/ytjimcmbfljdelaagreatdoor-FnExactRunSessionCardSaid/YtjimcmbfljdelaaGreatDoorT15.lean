/-
  What the functions compute, and what the law asks of it: texts joined. Conditions: those that each lemma names.
-/
import Derived.Test.YtjimcmbfljdelaaGreatDoorT12
import Derived.Lib.AtoiAllCases
import Derived.Test.YtjimcmbfljdelaaGreatDoorT8
import Derived.Test.YtjimcmbfljdelaaGreatDoorT7
import Derived.Test.YtjimcmbfljdelaaGreatDoorT1
import Derived.Test.YtjimcmbfljdelaaGreatDoorShelfU
import Derived.Test.YtjimcmbfljdelaaGreatDoorT10
import Derived.Test.YtjimcmbfljdelaaGreatDoorT11
import Derived.Test.YtjimcmbfljdelaaGreatDoorT2
set_option linter.unusedSimpArgs false
set_option linter.unusedVariables false
set_option maxRecDepth 20000
set_option linter.unusedSectionVars false
set_option maxHeartbeats 16000000
variable{n:Int}{a b c d:Nat}{s:List UInt8}{P:Go.Program}{f:Go.FuncId}{args:List Go.Gl.PV}{vs:List Go.Value}{w w':Go.World}{v:Go.Value}{p row:List Int}{C:Go.Gl.R->Prop}{cs:List Nat}{m0:Bool}
namespace Go.Gl
open Go Go.Proofs
variable [Amb][NoQ]
def DJ(c:UInt8):Bool:=decide (48<=c.toNat/\c.toNat<=57)
def Hl(a:Int)(c:UInt8):Int:=10*a+((c.toNat:Int)-48)
theorem Ug{t:List UInt8}:∀{k:Nat},k<=t.length->qB t k=(t.take k).foldl Hl 0
 |0,_=>by simp[qB]
 |k+1,h=>by rw[qB,Ug (by omega),aq (d:=0) (by omega),List.foldl_append];rfl
theorem Uh{t:List UInt8}:∀{k:Nat},k<=t.length->Bv t k=(t.take k).all DJ
 |0,_=>by simp[Bv]
 |k+1,h=>by rw[Bv,Uh (by omega),aq (d:=0) (by omega),List.all_append];simp[DJ]
theorem LH:∀{t:List UInt8} {acc u:Nat},Lib.parseUint10 acc t=.ok u->t.all DJ=true/\(u:Int)=t.foldl Hl acc
 |[],acc,u,h=>by simp only[Lib.parseUint10]at h;injection h with h;subst h;exact⟨rfl,rfl⟩
 |c::r,acc,u,h=>by
  simp only[Lib.parseUint10]at h;split at h
  .rename_i g
   split at h
   .cases h
   .split at h
    .cases h
    .obtain⟨q1,q2⟩:=LH h
     refine⟨by rw[zH7,q1,DJ,zB6 g];rfl, ?_⟩;rw[q2,List.foldl_cons,Hl];congr 1;omega
  .cases h
theorem Ul:∀{t:List UInt8} {acc:Nat},t.all DJ=true->(acc+1)*10^t.length<=1000000000000000000->∃u,Lib.parseUint10 acc t=.ok u
 |[],acc,_,_=>⟨acc,rfl⟩
 |c::r,acc,h,hb=>by
  rw[zH7,zB9,DJ,zC2]at h;rw[zC1,zG7]at hb;have h1:0<10^r.length:=Nat.pow_pos (by decide);have h2:(acc*10+(c.toNat-48)+1)*10^r.length<=(acc+1)*(10^r.length*10):=by
   rw[Nat.mul_comm (10^r.length) 10,<-Nat.mul_assoc];exact zD9 _ (by omega)
  have h3:acc*10+(c.toNat-48)+1<=(acc*10+(c.toNat-48)+1)*10^r.length:=Nat.le_mul_of_pos_right _ h1;simp only[Lib.parseUint10];rw[zB0 h.1,zA8 (by omega),zA8 (by omega)];exact Ul h.2 (by omega)
theorem Hm:∀{f m:Nat} {acc:List UInt8},acc.all DJ=true->(yE f m acc).all DJ=true
 |0,_,_,h=>h
 |f+1,m,acc,h=>by
  rw[yE];split
  .exact h
  .refine Hm ?_
   have:=AB (v:=((m % 10:Nat):Int)) (by omega) (by omega);rw[zH7,h,DJ,zB6 (by omega)];rfl
theorem Oe:∀{k f m:Nat} {acc:List UInt8},m<10^k->(yE f m acc).length<=acc.length+k
 |k,0,m,acc,_=>by rw[yE];omega
 |0,f+1,m,acc,h=>by
  have:m=0:=by simp at h;omega
  rw[yE,zB0 this];omega
 |k+1,f+1,m,acc,h=>by
  rw[yE];split
  .omega
  .have:=Oe (k:=k) (f:=f) (m:=m/10) (acc:=re ((m % 10:Nat):Int)::acc) (by rw[zG7]at h;omega)
   rw[zC1]at this;omega
theorem yr(h: -999999999999<=n/\n<=999999999999):(o7 (cP n)).length<=12/\∀r,cP n≠43::r:=by
 have hd:∀m,m<10^12->(oO m []).length<=12/\(oO m []).all DJ=true:=λm hm=>⟨by have:=Oe (k:=12) (f:=64) (acc:=[]) hm;unfold oO;simpa using this,Hm rfl⟩;have hno:∀{t r:List UInt8} {c:UInt8},t.all DJ=true->t=c::r->c≠43/\c≠45:=λ{t r c} h e=>by
  subst e;rw[zH7,zB9,DJ,zC2]at h;exact⟨λq=>by subst q;simp at h,λq=>by subst q;simp at h⟩
 have hT:∀{t:List UInt8},t.all DJ=true->o7 t=t:=λ{t} h=>by
  rw[o7,zA8];rw[AI,zB9,zC2,zC2];rintro⟨_,q⟩
  match t,h,q with
  |c::r,h,q=>exact(hno h rfl).2 q
 obtain⟨q1,q2⟩:=hd n.natAbs (by
   have:(10:Nat)^12=1000000000000:=(by decide);omega)
 unfold cP;split
 .exact⟨by decide,λr e=>by cases e⟩
 .split
  .refine⟨?_,λr e=>by cases e⟩
   rw[o7,zB0 (by simp[AI])];simpa using q1
  .rw[hT q2]
   exact⟨q1,λr e=>(hno q2 e).1 rfl⟩
theorem c43{c:UInt8}(h:c.toNat=43):c=43:=UInt8.toNat_inj.1 h
theorem at_rd:(Lib.atoiAll s=.ok n/\ -999999999999<=n/\n<=999999999999/\cP n=s)↔(rn 12 s=true/\n=DD s):=by
 have fN:∀{t:List UInt8},qB t t.length=t.foldl Hl 0:=λ{t}=>by rw[Ug (zB1 _),zE6]
 have fG:∀{t:List UInt8},Bv t t.length=t.all DJ:=λ{t}=>by rw[Uh (zB1 _),zE6]
 have hS:∀{s:List UInt8} {u:Nat},(∀r,s≠43::r)->Lib.parseMag (o7 s)=.ok u->(u:Int)<1000000000000000000->Lib.atoiAll s=.ok (if AI s=true then -(u:Int)else u):=λ{s u} h1 h2 h3=>by
  match s with
  |[]=>simp[o7,AI,Lib.parseMag]at h2
  |c::r=>
   by_cases e:c=45
   .subst e
    rw[Lib.atoiAll_minus,show r=o7 (45::r)from rfl,h2];simp only[Lib.signed];rw[zA8 (by omega)];rfl
   .have hb:AI (c::r)=false:=by simp[AI,e]
    rw[o7,hb,zA8 (by simp)]at h2;rw[Lib.atoiAll_plain c r (λq=>h1 r (by rw[c43 q])) (λq=>e (UInt8.toNat_inj.1 q)),h2,hb];simp only[Lib.signless];rw[zA8 (by omega),zA8 (by simp)]
 have hM:∀{t:List UInt8} {u:Nat},Lib.parseMag t=.ok u↔t≠[]/\Lib.parseUint10 0 t=.ok u:=λ{t u}=>by
  unfold Lib.parseMag;split<;>simp_all
 constructor
 .rintro⟨h1,h2,h3,rfl⟩
  obtain⟨g1,g2⟩:=yr ⟨h2,h3⟩;generalize hs:cP n=s at*
  have key:∃u,Lib.parseMag (o7 s)=.ok u/\n=if AI s=true then -(u:Int)else u:=by
   match s with
   |[]=>cases h1
   |c::r=>
    by_cases e:c=45
    .subst e
     rw[Lib.atoiAll_minus]at h1;cases hm:Lib.parseMag r with
     |ok u=>
      rw[hm]at h1;simp only[Lib.signed]at h1;split at h1
      .cases h1
      .injection h1 with h1
       exact⟨u,hm,h1.symm⟩
     |range=>rw[hm]at h1;cases h1
     |_=>rw[hm]at h1;cases h1
    .have hb:AI (c::r)=false:=by simp[AI,e]
     rw[Lib.atoiAll_plain c r (λq=>g2 r (by rw[c43 q])) (λq=>e (UInt8.toNat_inj.1 q))]at h1;rw[o7,hb];cases hm:Lib.parseMag (c::r)with
     |ok u=>
      rw[hm]at h1;simp only[Lib.signless]at h1;split at h1
      .cases h1
      .injection h1 with h1
       exact⟨u,by rw[zA8 (by simp)];exact hm,h1.symm⟩
     |range=>rw[hm]at h1;cases h1
     |_=>rw[hm]at h1;cases h1
  obtain⟨u,k1,k2⟩:=key;obtain⟨k3,k4⟩:=hM.1 k1;obtain⟨k5,k6⟩:=LH k4;have k7:n=DD s:=by
   rw[k2,DD,fN,k6];show(if AI s=true then -((o7 s).foldl Hl 0)else(o7 s).foldl Hl 0)=_;split<;>omega
  have k8:=List.length_pos_iff.2 k3;refine⟨?_,k7⟩;rw[rn,fG,k5,<-k7,hs,zB6 (show 1<=(o7 s).length from k8),zB6 g1];simp
 .rintro⟨h1,rfl⟩
  rw[rn,fG]at h1;simp only[zB9,zC2]at h1;obtain⟨⟨⟨k1,k2⟩,k3⟩,k4⟩:=h1;have k5:(10:Nat)^(o7 s).length<=10^12:=Nat.pow_le_pow_right (by decide) k2;have k9:(10:Nat)^12=1000000000000:=by decide
  obtain⟨u,hu⟩:=Ul (acc:=0) k3 (by omega);have k6:(u:Int)=(o7 s).foldl Hl 0:=(LH hu).2;have k7:DD s=if AI s=true then -(u:Int)else u:=by
   rw[DD,fN,k6];show _=(if AI s=true then -((o7 s).foldl Hl 0)else(o7 s).foldl Hl 0);split<;>omega
  have k8:(u:Int)<1000000000000:=by
   rw[k6];have hb:∀(t:List UInt8) (a:Int),t.all DJ=true->0<=a->t.foldl Hl a+1<=(a+1)*10^t.length:=λt=>by
    induction t with
    |nil=>intro a _ _;simp
    |cons c t ih=>
     intro a h ha;rw[zH7,zB9,DJ,zC2]at h;have:=ih (Hl a c) h.2 (by unfold Hl;omega);have h4:(Hl a c+1)*10^t.length<=(a+1)*10*10^t.length:=Int.mul_le_mul_of_nonneg_right (by unfold Hl;omega) (Int.pow_nonneg (by decide));rw[List.foldl_cons,zC1,Int.pow_succ,Int.mul_comm (10^t.length) 10,<-Int.mul_assoc];omega
   have:=hb (o7 s) 0 k3 (by omega);have h5:((10:Int)^(o7 s).length)=((10^(o7 s).length:Nat):Int):=by push_cast;rfl
   rw[Int.zero_add,Int.one_mul,h5]at this;omega
  have k10:(-999999999999<=DD s/\DD s<=999999999999):=by
   rcases Bool.eq_false_or_eq_true (AI s)with hb|hb<;>rw[k7,hb]<;>simp only[zH3,Bool.false_eq_true,zE3]<;>omega
  refine⟨?_,k10.1,k10.2,k4⟩;rw[k7];refine hS (λr e=> ?_) (hM.2 ⟨List.ne_nil_of_length_pos k1,hu⟩) (by omega);exact(yr k10).2 r (by rw[k4];exact e)
end Go.Gl
namespace Go.Gl
open Go Go.Proofs Go.RowKit Go.Lib
variable [Amb][NoQ]
class AtoA[Amb]:Prop where
 has:∀w:World,(∀B o,Amb.tb B=some o->w.heap[B]? =some o)->(∃v,w.cell? ⟨4,0,none⟩=some v/\(v=.nilIface\/∃t p,v=.iface t p))/\∃v,w.cell? ⟨5,0,none⟩=some v/\(v=.nilIface\/∃t p,v=.iface t p)
variable [TabA][AtoA]
theorem Fun.lookS(hf:Fun P f args [.str s])(w:World)(ha:∀B o,Amb.tb B=some o->w.heap[B]? =some o)(hr:RepL w (λ_=>False) (λ_=>True) args vs):
  Calls P f ⟨vs⟩ w λe w'=>e=.returned (.string ⟨s.toArray⟩)/\Keep w w' (λ_=>False):=
 Fun.look hf (λ_=>rfl) rfl (λ_ _ _ v h=>by simpa only[RepP]using h) w ha hr
theorem wc(k:Keep w w' (λ_=>False)):Below w.heap.size w w':=⟨k.os,k.tape,k.output,k.size,λB hB=>k.same B hB⟩
theorem Er(s:List UInt8)(hs:s.length<=1048576)(w:World)(ha:∀B o,Amb.tb B=some o->w.heap[B]? =some o):Calls Tryz.prog 149 #[.string ⟨s.toArray⟩,.int .i64 (-999999999999),.int .i64 999999999999] w λe w'=>
  e=.returned (.tuple #[.int .i64 (qA 12 s),.bool (rn 12 s)])/\Below w.heap.size w w':=by
 obtain⟨⟨v1,a1,a2⟩,v2,b1,b2⟩:=AtoA.has w ha;have no:(∀n,Lib.atoiAll s≠ .ok n)->rn 12 s=false:=λh=>by
  rw[<-zA9];intro q;exact h _ (at_rd.2 ⟨q,rfl⟩).1
 have hsz:(⟨s.toArray⟩:ByteArray).size<=1048576:=hs;cases h:Lib.atoiAll s with
 |range=>
  have e:=no λn q=>by rw[h]at q;cases q
  rw[qA,e,zA8 (by simp)]
  go_enter Tryz.func149,Tryz.ntmps149
  go_wp2_with fail
  refine(Tryz.strconv_Atoi_range ⟨s.toArray⟩ (by omega) h v2 w b1 b2).mono ?_;rintro e W1 ⟨N,rfl,hN,hc,hb⟩;show _
  go_wp2_with fail
  go_ret2
  exact⟨rfl,hb⟩
 |ok v=>
  obtain⟨vb0,vb1⟩:=Lib.atoiAll_bounds h;have hW1:∀W1:World,(W1=w\/∃t,W1=Lib.bytesWorld w 5 t)->Below w.heap.size w W1:=λW1 h=>by
   rcases h with rfl|⟨t,rfl⟩
   .exact Below.refl _ _
   .exact Lib.bytesWorld_below _ _ _
  have hW2:∀W1:World,Below w.heap.size w W1->∀B o,Amb.tb B=some o->W1.heap[B]? =some o:=λW1 h B o hB=>by
   rw[h.block B (zC7.1 (ha B o hB)).1];exact ha B o hB
  have hno:¬(-999999999999<=v/\v<=999999999999/\cP v=s)->rn 12 s=false:=λg=>by
   rw[<-zA9];intro q;obtain⟨q1,q2⟩:=at_rd.2 ⟨q,rfl⟩;rw[h]at q1;injection q1 with q1
   rw[<-q1]at q2;exact g q2
  by_cases l1:v< -999999999999
  .have e:=hno (by omega)
   rw[qA,e,zA8 (by simp)]
   go_enter Tryz.func149,Tryz.ntmps149
   go_wp2_with fail
   refine(Tryz.strconv_Atoi_ok ⟨s.toArray⟩ (by omega) _ h w).mono ?_;rintro e W1 ⟨rfl,hW⟩;show _
   go_wp2_with fail
   go_ret2
   exact⟨rfl,hW1 _ hW⟩
  by_cases l2:v>999999999999
  .have e:=hno (by omega)
   rw[qA,e,zA8 (by simp)]
   go_enter Tryz.func149,Tryz.ntmps149
   go_wp2_with fail
   refine(Tryz.strconv_Atoi_ok ⟨s.toArray⟩ (by omega) _ h w).mono ?_;rintro e W1 ⟨rfl,hW⟩;show _
   go_wp2_with fail
   go_ret2
   exact⟨rfl,hW1 _ hW⟩
  by_cases l3:cP v=s
  .obtain⟨e,l4⟩:=at_rd.1 ⟨h,by omega,by omega,l3⟩
   rw[qA,e,zB0 rfl,<-l4];clear l4 e
   go_enter Tryz.func149,Tryz.ntmps149
   go_wp2_with fail
   refine(Tryz.strconv_Atoi_ok ⟨s.toArray⟩ (by omega) _ h w).mono ?_;rintro e W1 ⟨rfl,hW⟩;show _
   go_wp2_with fail
   refine(Fun.lookS (aQ v vb0 vb1) W1 (hW2 _ (hW1 _ hW)) (vs:=[.int .i64 v]) (by simp only[RepL,RepP];exact⟨_,_,rfl,rfl,rfl⟩)).mono ?_;rintro e W2 ⟨rfl,hk⟩;rw[l3];show _
   go_wp2_with fail
   go_ret2
   exact⟨rfl,(hW1 _ hW).trans ((wc hk).mono (hW1 _ hW).size)⟩
  .have e:=hno (λq=>l3 q.2.2)
   have l5:(cP v==s)=false:=by simpa using l3
   rw[qA,e,zA8 (by simp)]
   go_enter Tryz.func149,Tryz.ntmps149
   go_wp2_with fail
   refine(Tryz.strconv_Atoi_ok ⟨s.toArray⟩ (by omega) _ h w).mono ?_;rintro e W1 ⟨rfl,hW⟩;show _
   go_wp2_with fail
   refine(Fun.lookS (aQ v vb0 vb1) W1 (hW2 _ (hW1 _ hW)) (vs:=[.int .i64 v]) (by simp only[RepL,RepP];exact⟨_,_,rfl,rfl,rfl⟩)).mono ?_;rintro e W2 ⟨rfl,hk⟩;show _
   go_wp2_with fail
   go_ret2
   exact⟨rfl,(hW1 _ hW).trans ((wc hk).mono (hW1 _ hW).size)⟩
 |_=>
  have e:=no λn q=>by rw[h]at q;cases q
  rw[qA,e,zA8 (by simp)]
  go_enter Tryz.func149,Tryz.ntmps149
  go_wp2_with fail
  refine(Tryz.strconv_Atoi_syntax ⟨s.toArray⟩ (by omega) (λn q=>by rw[h]at q;cases q) (λq=>by rw[h]at q;cases q) v1 w a1 a2).mono ?_;rintro e W1 ⟨N,rfl,hN,hc,hb⟩;show _
  go_wp2_with fail
  go_ret2
  exact⟨rfl,hb⟩
theorem Aj(s:List UInt8)(hs:s.length<=1048576):Fun Tryz.prog 149 [.str s,.int .i64 (-999999999999),.int .i64 999999999999] [.int .i64 (qA 12 s),.bool (rn 12 s)]:=by
 refine Fun.of_any Tryz.func149 rfl rfl rfl rfl rfl ?_;intro w F G vs hamb hG hv;simp only[RepL,RepP]at hv;obtain⟨a,vs1,rfl,rfl,b,vs2,rfl,rfl,c,vs3,rfl,rfl,rfl⟩:=hv;refine(Er s hs w hamb).mono ?_;rintro e w' ⟨rfl,hb⟩;refine⟨_,rfl,λF' ι _=> ?_,hb⟩;simp[impAll,imps,imp,imp1,RepA,RepAL,RepP]
theorem ut(s:List UInt8)(hs:s.length<=1048576):Fun Tryz.prog 69 [.str s] [.int .i64 (qA 12 s),.bool (rn 12 s)]:=by
 refine fO au [2,3] Tryz.func69 ?_;have cE1:=@Aj;exact dE ai trivial aj
end Go.Gl
namespace Go.Gl
open Go Go.Proofs
variable [Amb][NoQ]
@[reducible] def lQ(w:World)(a b c d:Nat):Amb:=⟨λB=>if B=a\/B=b\/B=c\/B=d then w.heap[B]? else none,false⟩
omit [Amb] [NoQ]in
theorem ZJ{B:Nat}{o:Obj}(h:(lQ w a b c d).tb B=some o):w.heap[B]? =some o:=by
 have h:(if B=a\/B=b\/B=c\/B=d then w.heap[B]? else none)=some o:=h;split at h
 .exact h
 .cases h
omit [Amb] [NoQ]in
theorem nm{B:Nat}(hw:∀B o,(lQ w a b c d).tb B=some o->w'.heap[B]? =some o)(hB:B=a\/B=b\/B=c\/B=d)(h:w.cell? ⟨B,0,none⟩=some v):w'.cell? ⟨B,0,none⟩=some v:=by
 cases e:w.heap[B]? with
 |none=>simp only[World.cell?,e]at h;cases h
 |some o=>
  have:=hw B o (show(if B=a\/B=b\/B=c\/B=d then w.heap[B]? else none)=some o by rw[zB0 hB];exact e);simp only[World.cell?,this];simp only[World.cell?,e]at h;exact h
omit [Amb] [NoQ]in
theorem Vl{g:Nat}(hg:Tryz.prog.globalNamed "internal/strconv.uint64pow10" =some g)(h:Lib.TabIs Tryz.prog w "internal/strconv.uint64pow10" .u64 Lib.pow10Tab): @TabA (lQ w a g c d):=@TabA.mk (lQ w a g c d) (λw' hw=>by
 unfold Lib.TabIs World.var? at h |-
 rw[hg,Option.bind_some]at h |-
 cases e:w.heap[g]? with
 |none=>rw[e]at h;cases h
 |some o=>rw[hw g o (show(if g=a\/g=g\/g=c\/g=d then w.heap[g]? else none)=some o by rw[zB0 (.inr (.inl rfl))];exact e)];rw[e]at h;exact h)
omit [Amb] [NoQ]in
theorem Vm(h:∃m:Int,w.cell? ⟨0,0,none⟩=some (.int .i64 m)): @SplA (lQ w 0 b c d):=@SplA.mk (lQ w 0 b c d) (λw' hw=>by
 obtain⟨m,h⟩:=h;exact⟨m,nm hw (.inl rfl) h⟩)
omit [Amb] [NoQ]in
theorem Vn(h:(∃t p,w.cell? ⟨4,0,none⟩=some (.iface t p))/\∃t p,w.cell? ⟨5,0,none⟩=some (.iface t p)): @AtoA (lQ w a b 4 5):=@AtoA.mk (lQ w a b 4 5) (λw' hw=>by
 obtain⟨⟨t,p,h⟩,t2,p2,h2⟩:=h;exact⟨⟨_,nm hw (.inr (.inr (.inl rfl))) h,.inr ⟨t,p,rfl⟩⟩,_,nm hw (.inr (.inr (.inr rfl))) h2,.inr ⟨t2,p2,rfl⟩⟩)
theorem Lq(h:c<row.length):(row.getD c 0::row.set c n).Perm (n::row):=by
 rw[VN h]
 conv=>rhs;rw[<-zF0 c row,aN h]
 refine(List.Perm.cons _ List.perm_middle).trans ((List.Perm.swap _ _ _).trans ?_);exact List.Perm.cons _ List.perm_middle.symm
theorem putT_perm:∀{T:List (List Int)} {n:Int},(cx T n).1.flatten.Perm (n::T.flatten)
 |[],n=>by simp[cx]
 |l::T,n=>by
  rw[cx];split
  .simp only[List.flatten_cons]
   rw[zA7];exact List.perm_middle
  .rename_i h
   have hc:fstN n l<l.length:=by have:=uQ (n:=n) (l:=l);omega
   simp only[List.flatten_cons];refine(List.Perm.append_left _ putT_perm).trans ?_;refine List.perm_middle.trans ?_;rw[<-zF8,<-zF8];exact List.Perm.append_right _ (Lq hc)
theorem tj{p:List Int}:∀{k:Nat},k<=p.length->(bi p k).1.flatten.Perm (p.take k)
 |0,_=>by simp[bi]
 |k+1,h=>by
  rw[bi,aq (d:=0) (by omega)];refine putT_perm.trans ((List.Perm.cons _ (tj (by omega))).trans ?_);exact(List.perm_append_singleton _ _).symm
theorem Sg(hp:p.Nodup){k:Nat}(h:k<p.length):(bi p k).1.flatten.Nodup/\p.getD k 0∉(bi p k).1.flatten:=by
 have h1:=tj (p:=p) (k:=k) (by omega);refine⟨(h1.nodup_iff).2 (hp.sublist (List.take_sublist _ _)),λhm=> ?_⟩;have h2:=h1.subset hm;have h3:(p.take (k+1)).Nodup:=hp.sublist (List.take_sublist _ _);rw[aq (d:=0) h,List.nodup_append]at h3;exact h3.2.2 _ h2 _ (by simp) rfl
theorem GU{v:Int}:∀{l:List Int} {i:Nat},v∉l->mb (λx=>decide (v<x)) l i=if fstN v l=l.length then -1 else(i:Int)+fstN v l
 |[],i,_=>by simp[mb,fstN]
 |x::l,i,h=>by
  have hx:x≠v:=λe=>h (by simp[e]);have ih:=GU (l:=l) (i:=i+1) (λq=>h (zF1 _ q));by_cases q:v<x
  .have hf:fstN v (x::l)=0:=by rw[fstN,zA8 (by omega)]
   rw[mb,zB0 (zB6 q),hf,zA8 (by simp)];simp
  .have hf:fstN v (x::l)=fstN v l+1:=by rw[fstN,zB0 (by omega)]
   have hi:mb (λx=>decide (v<x)) (x::l) i=mb (λx=>decide (v<x)) l (i+1):=by rw[mb,zA8 (by simpa using q)]
   rw[hi,hf,ih,zC1];by_cases g:fstN v l=l.length
   .rw[zB0 g,zB0 (by omega)]
   .rw[zA8 g,zA8 (by omega)];omega
theorem pN(x v:Int):Fun Tryz.prog 317 [.int .i64 x,.pc [.int .i64 v]] [.bool (decide (v<x))]:=by
 refine fO au [3] Tryz.func317 ?_;exact dE ai trivial aj
theorem KM{m m':Bool}{L:List (Option (List Int))}{id off id' off' len:Nat}(h:off=cs.length):ub (Tk (PV.int .i64) m cs L) (.live m' [PV.int .i64 n]) id off id' off' len C=((m'=true->m=true)/\off'=0/\len=1/\id'≠id/\C ⟨.p .any,[(id',.dead),(id,mM (PV.int .i64) m (cs++[L.length]) (L++[some [n]]))],[id,id']⟩):=VR (l:=[n]) h
def vy:FuncId->List Bool:=λf=>if f=4294967297 then[true,false,false,false]else[]
theorem Lp:vy f=if f=4294967297 then[true,false,false,false]else[]:=_root_.id rfl
theorem HB:ga vy=false/\gu vy=true/\gs vy=false/\gr vy=false/\gB vy=false:=⟨rfl,rfl,rfl,rfl,rfl⟩
attribute [go_sem] Lp HB
theorem iW(p:List Int)(hl:p.length<=1048576)(hp:ac p=true):Fun Tryz.prog 246 [lI m0 p] [.dl (List.map (List.map (PV.int .i64)) ((bi p p.length).1)),.dl (List.map (List.map (PV.int .i64)) ((bi p p.length).2)),.bool true]:=by
 refine fO vy [2,3,4] Tryz.func246 ?_;have cE1:=@ae;have cE2:=@aJ;have cD1:=d7 (d8 16 [14,15]) [];have cD2:=d7 (d8 23 [9,10,17,18,20,22]) [(0,9),(1,9),(2,9),(3,9),(4,9),(5,9),(6,9),(7,9),(0,10),(1,10),(2,10),(3,10),(9,11),(10,11),(9,12),(10,12),(9,13),(10,13),(9,14),(10,14),(9,15),(10,15),(9,16),(10,16),(0,17),(1,17),(2,17),(3,17),(4,17),(5,17),(6,17),(7,17),(8,17),(9,17),(10,17),(11,17),(12,17),(13,17),(14,17),(0,18),(1,18),(2,18),(3,18),(2,20),(3,20)];have h8:p.length<=8:=by simp[ac]at hp;exact hp.1
 have hnd:p.Nodup:=(permB_iff.1 (by simp[ac]at hp;exact hp.2)).2;refine dE ai @hp (aD λzb=> ?_);refine xN (λ(k:Nat) (cs:List Nat) (L:List (Option (List Int))) (cb:List Nat) (N:List (Option (List Int))) S1=>(S1.e 0=.p (lI m0 p)/\S1.e 16=.p (lI m0 p)/\eI S1 17 p.length/\eI S1 18 k)/\GwnL (S1.e 5) S1.h S1.n (PV.int .i64) cs L/\GwnL (S1.e 6) S1.h S1.n (PV.int .i64) cb N/\k<=p.length/\Tb cs L (bi p k).1/\Tb cb N (bi p k).2/\NId (S1.e 6) (S1.e 5)) (λk _ _ _ _=>p.length-k) 0 [] [] [] [] ?_ (dC trivial (bu (λzb=> ?_) λzb=> ?_));rintro k cs L cb N S1 ⟨fF1,A7,C3,A1,A0,A3,A8⟩;obtain⟨B4,A5,B8⟩:=A7.ou;obtain⟨C5,B9,E0⟩:=C3.ou;have J6:=B9.2.1;have di1_6i1_5:=(A8).ou B9.1 A5.1;have J5:=of_eq_false di1_6i1_5.1;have fL1:=(aa fF1 (aa A5 (aa B9 di1_6i1_5)))
 .obtain⟨i1,i2,i3⟩:=Ah (p:=p) (k:=k)
  have i4:=mD (p:=p) (k:=k);by_cases hk:k<p.length
  .have q1:=mw (T:=(bi p k).1) (n:=p.getD k 0)
   have q2:bi p (k+1)=((cx (bi p k).1 (p.getD k 0)).1,if(cx (bi p k).1 (p.getD k 0)).2=(bi p k).2.length then(bi p k).2++[[(k:Int)+1]]else(bi p k).2.set (cx (bi p k).1 (p.getD k 0)).2 ((bi p k).2.getD (cx (bi p k).1 (p.getD k 0)).2 []++[(k:Int)+1])):=rfl;obtain⟨n1,n2⟩:=Sg hnd hk;generalize hA:(bi p k).1=TA at*
   generalize hB:(bi p k).2=TB at*
   obtain⟨n,hn⟩:∃n,p.getD k 0=n:=⟨_,rfl⟩;rw[hn]at q1 q2 n2;have lb:=A3.len;have la:=A0.len;refine dE ai (aa fL1 @hn) (aI λzb hc=> ?_);refine Kn (λ(r:Nat) (U:List (List Int)) (M:List (Option (List Int))) (v:Int) S2=>(S2.e 0=.p (lI m0 p)/\eI S2 7 k/\eI S2 9 r/\S2.e 16=.p (lI m0 p)/\eI S2 17 p.length/\eI S2 18 k)/\GwnL (S2.e 5) S2.h S2.n (PV.int .i64) cs M/\GwnL (S2.e 6) S2.h S2.n (PV.int .i64) cb N/\PtrL (S2.e 8) S2.h S2.n (.live false [.int .i64 v])/\r<=TA.length/\Tb cs M U/\U.length=TA.length/\U.drop r=TA.drop r/\(cx TA n).1=U.take r++(cx (TA.drop r) v).1/\(cx TA n).2=r+(cx (TA.drop r) v).2/\(TA.drop r).flatten.Nodup/\v∉(TA.drop r).flatten/\NId (S2.e 6) (S2.e 5)/\NId (nk (S2.e 8)) (S2.e 5)/\NId (nk (S2.e 8)) (S2.e 6)/\S1.n<=S2.n) (λr _ _ _=>TA.length-r) 0 TA L n ?_ (dC fL1 aj);rintro r U M v S2 ⟨fF2,D2,F9,J7,A6,B3,C1,D0,D9,I0,Q1,Q2,B1,D3,H0,L8⟩;obtain⟨D7,D1,G1⟩:=D2.ou;obtain⟨F5,G4,K7⟩:=F9.ou;obtain⟨Q3,F6,Q4⟩:=J7.ou;have di2_6i2_5:=(B1).ou G4.1 D1.1;have di2_8i2_5:=(D3).ou (cc F6.1) D1.1;have di2_8i2_6:=(H0).ou (cc F6.1) G4.1;have fL2:=(aa fF2 (aa D1 (aa G4 (aa F6 (aa di2_6i2_5 (aa di2_8i2_5 di2_8i2_6))))))
   .by_cases hr:r<TA.length
    .have d1:TA.drop r=U.getD r []::TA.drop (r+1):=by
      rw[<-D0,yz (by omega),show U.drop (r+1)=TA.drop (r+1)by rw[<-zI4,<-zI4,D0]]
     obtain⟨row,hrow⟩:∃row,U.getD r []=row:=⟨_,rfl⟩;rw[hrow]at d1;have d2:row.length<=k:=i2 _ (List.mem_of_mem_drop (i:=r) (by rw[d1];exact zH1));have e2:=B3.at_ r (by omega);rw[hrow]at e2;rw[d1,List.flatten_cons]at Q1 Q2;have nv:v∉row:=λq=>Q2 (zB3.2 (.inl q));have ix:=GU (i:=0) nv;have s3:=uQ (n:=v) (l:=row);have c1:=aJ (m0:=true) row 317 [.pc [.int .i64 v]] (λx=>decide (v<x)) (by omega) (λx _=>pN x v);by_cases he:fstN v row=row.length
     .rw[zB0 he]at ix
      rw[ix]at c1;have p1:cx (TA.drop r) v=((row++[v])::TA.drop (r+1),0):=by rw[d1,cx,zB0 he]
      rw[p1]at D9 I0;have f0:(r=cs.length)=False:=zC6 (by omega);have e3:=A3.at_ r (by omega);have e4:=i3 (TB.getD r []) (am (by omega));have p2:(cx TA n).1=U.set r (row++[v]):=by
       rw[D9,VN (by omega),show U.drop (r+1)=TA.drop (r+1)by rw[<-zI4,<-zI4,D0]]
      have p3:=rr (i:=r) (l:=row++[v]) B3 (by omega);have p4:=rr (i:=r) (l:=TB.getD r []++[(k:Int)+1]) A3 (by omega);have p5:(cx TA n).2=r:=by rw[I0];rfl
      rw[p2,p5,zA8 (by omega)]at q2;have cE1:=@c1;have cE2:=@ae;have cE3:=@aJ;refine dE ai (aa fL2 (aa @e2 (aa @e3 @f0))) (aI λzb hc=> ?_);refine nI (k+1) (cs.set r (M.set (cs.getD r 0) none).length) (M.set (cs.getD r 0) none++[some (row++[v])]) (cb.set r (N.set (cb.getD r 0) none).length) (N.set (cb.getD r 0) none++[some (TB.getD r []++[(k:Int)+1])]) (dC fL2 aj) (dC fL2 (bu ?_ ?_))<;>intro zb;all_goals first|(rw[q2];exact p3)|(rw[q2];exact p4)|trace_state
     .rw[zA8 he]at ix
      rw[ix]at c1;have p1:cx (TA.drop r) v=(row.set (fstN v row) v::(cx (TA.drop (r+1)) (row.getD (fstN v row) 0)).1,(cx (TA.drop (r+1)) (row.getD (fstN v row) 0)).2+1):=by rw[d1,cx,zA8 he]
      rw[p1]at D9 I0;have e5:((0:Nat)+(fstN v row:Int)).toNat=fstN v row:=by omega
      have e6:((0:Int)+(fstN v row:Int)).toNat=fstN v row:=by omega
      have p3:=VO (i:=r) (l:=row.set (fstN v row) v) B3 (by omega);have nd2:=List.nodup_append.1 Q1;have hmem:row.getD (fstN v row) 0∈row:=am (by omega);have cE1:=@c1;have cE2:=@ae;have cE3:=@aJ;refine dE ai (aa fL2 (aa @e2 (aa @e5 @e6))) (aI λzb hc=> ?_);refine rL (r+1) (U.set r (row.set (fstN v row) v)) (M.set (cs.getD r 0) (some (row.set (fstN v row) v))) (row.getD (fstN v row) 0) (dC fL2 aj) (dC fL2 (Pu ?_ ?_ ?_ ?_))<;>intro zb;all_goals first|exact p3|exact nd2.2.1|(intro q;exact nd2.2.2 _ hmem _ q rfl)|(rw[T9,<-zI4,<-zI4,D0];done)|(rw[aaV (by omega),D9];simp;done)|(rw[I0];omega)|trace_state
    .have p1:cx (TA.drop r) v=([[v]],0):=by rw[zA6 (by omega),cx]
     rw[p1]at D9 I0;have f0:(r=cs.length)=True:=zF5 (by omega);have hr1:r=cs.length:=by omega
     have hr2:r=cb.length:=by omega
     have l1:∀{m L id C},Jq (Tk (PV.int .i64) m cs L) id r C=C ⟨.p (.sl .own []),[],[id]⟩:=λ{m L id C}=>UL hr1;have l2:∀{m L id C},Jq (Tk (PV.int .i64) m cb L) id r C=C ⟨.p (.sl .own []),[],[id]⟩:=λ{m L id C}=>UL hr2;have g1:=λ{m m' L n id id' off' len C}=>KM (m:=m) (m':=m') (L:=L) (n:=n) (id:=id) (id':=id') (off':=off') (len:=len) (C:=C) hr1;have g2:=λ{m m' L n id id' off' len C}=>KM (m:=m) (m':=m') (L:=L) (n:=n) (id:=id) (id':=id') (off':=off') (len:=len) (C:=C) hr2;have p2:(cx TA n).1=U++[[v]]:=by rw[D9,zA2 (by omega)]
     have p3:=y5 (l:=[v]) B3;have p4:=y5 (l:=[(k:Int)+1]) A3;have p5:(cx TA n).2=TB.length:=by rw[I0];simp;omega
     rw[p2,p5,zB0 rfl]at q2;have cE1:=@ae;have cE2:=@aJ;have cE3:=trivial;refine dE ai (aa fL2 (aa @f0 (aa @l1 (aa @l2 (aa @g1 @g2))))) (aI λzb hc=> ?_);refine nI (k+1) (cs++[M.length]) (M++[some [v]]) (cb++[N.length]) (N++[some [(k:Int)+1]]) (dC fL2 aj) (dC fL2 (bu ?_ ?_))<;>intro zb;all_goals first|(rw[q2];exact p3)|(rw[q2];exact p4)|trace_state
   all_goals first|exact A0|exact n1|exact n2|(simp;done)|trace_state
  .obtain rfl:k=p.length:=by omega
   have cE1:=@ae;have cE2:=@aJ;have cE3:=trivial;refine dE ai fL1 (aI λzb hc=> ?_);refine Hg A0 (λh=>by cases h) rfl A0.len ?_;rw[Va];simp only[fu,ac8,J6];refine Hg A3 (λh=>by cases h) rfl A3.len ?_;simp only[FL,fin,mJ,F0,zE1,zF8,zC0,true_and];refine List.Pairwise.cons (λq hq=> ?_) (List.pairwise_singleton _ _);rw[zB7]at hq;subst hq;exact .inl (show B4≠C5 by omega)
 all_goals exact Tb.nil
theorem xp{e0:Bool}(L:List (List Int))(hL:L.length<=1048576)(hl:∀l∈L,l.length<=1048576):Fun Tryz.prog 33 [lE m0 e0 L] [.sl .own (List.map (cK false) L)]:=by
 refine fO au [2] Tryz.func33 ?_;refine dE ai trivial (aD λzb=> ?_);refine ao (λ(k:Nat) S1=>(S1.e 0=.p (lE m0 e0 L)/\eI S1 4 k)/\OwnL (S1.e 3) S1.h S1.n (cK false) ((L.take k).length) (L.take k)/\k<=L.length) (λk=>L.length-k) 0 ?_ (dC trivial aj);rintro k S1 ⟨fF1,A4,A1⟩;obtain⟨A9,A2,B6⟩:=A4.ou;have fL1:=(aa fF1 A2);by_cases hk:k<L.length
 .have b1:=aq (d:=[]) hk
  have b2:=hl _ (am (d:=[]) hk);refine dE ai fL1 (aI λzb hc=> ?_);refine ak (k+1) (dC fL1 aj) (dC fL1 (aD λzb=> ?_));all_goals(rw[b1])
 .obtain rfl:k=L.length:=by omega
  exact dE ai fL1 aj;all_goals(rw[zE6])
end Go.Gl
