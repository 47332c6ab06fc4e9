/-
 A program logic over the walk's rules, joined: its definitions; what each operation does. Conditions: those that each lemma names.
-/
import Derived.WalkKit
import Derived.ProofKit
import Derived.Orders
import Derived.Deep.Draws
import Derived.Maps.Keyed
import Derived.DeepKeys4
set_option linter.unusedSimpArgs false
set_option linter.unusedVariables false
set_option linter.unusedSectionVars false
variable{d f hi i id j k lo r sCap sLen w0 z:Nat}{b m:Bool}{w w':Go.World}{A' F F' G G' M O:Nat->Prop}{o:Go.Oper}{E t t' ty:Go.TypeId}{sv u val zv:Go.Value}{c ix x y:Go.Operand}{cs cs' cur:Array Go.Value}{s:List UInt8}{l:Int}{P:Go.Program}{ad base:Option Go.Addr}{news olds rest vals:List Go.Value}
namespace Go.Gl
open Go
theorem zA0{α:Type _}{l:List α}{a:α}:l.getD i a=(l[i]?).getD a:=List.getD_eq_getElem?_getD
theorem zA1{α:Type _}{l:List α}(h:i<l.length):l[i]?=some l[i]:=List.getElem?_eq_getElem h
theorem zA2{α:Type _}{l:List α}(h:l.length<=i):l.take i=l:=List.take_of_length_le h
theorem zA3{α:Type _}{a b:List α}:(a++b).length=a.length+b.length:=List.length_append
theorem zA4{α:Type _}{l:List α}(h:l.length=0):l=[]:=List.eq_nil_of_length_eq_zero h
theorem zA5{α β:Type _}{f:α->β}{l:List α}:(l.map f)[i]?=l[i]?.map f:=List.getElem?_map
theorem zA6{α:Type _}{l:List α}(h:l.length<=i):l.drop i=[]:=List.drop_of_length_le h
theorem zA7{α:Type _}(a b c:List α):a++b++c=a++(b++c):=List.append_assoc a b c
theorem zA8:∀{c:Prop} {h:Decidable c},¬c->∀{α:Sort _} {t e:α},(if c then t else e)=e:=@if_neg
theorem zA9:∀(b:Bool),(¬b=Bool.true)=(b=Bool.false):=@Bool.not_eq_true
theorem zB0:∀{c:Prop} {h:Decidable c},c->∀{α:Sort _} {t e:α},(if c then t else e)=t:=@if_pos
theorem zB1:∀(n:Nat),n<=n:=@Nat.le_refl
theorem zB2:∀{α:Type _} {β:Type _} {as:List α} (f:α->β),(List.map f as).length=as.length:=@List.length_map
theorem zB3:∀{α:Type _} {a:α} {s t:List α},a∈s++t↔a∈s\/a∈t:=@List.mem_append
theorem zB4:∀{α:Type _} {i:Nat} {a:α} {l:List α},l[i]? =Option.some a↔∃(h:i<l.length),l[i]=a:=@List.getElem?_eq_some_iff
theorem zB5:∀{α:Sort _} {β:Sort _} {a₁ a₂:α} (f:α->β),a₁=a₂->f a₁=f a₂:=@congrArg
theorem zB6:∀{p:Prop} [inst:Decidable p],p->Decidable.decide p=Bool.true:=@decide_eq_true
theorem zB7:∀{α:Type _} {a b:α},a∈[b]↔a=b:=@List.mem_singleton
theorem zB8:∀{p:Prop} [inst:Decidable p],¬p->Decidable.decide p=Bool.false:=@decide_eq_false
theorem zB9:∀(a b:Bool),((a&&b)=Bool.true)=(a=Bool.true/\b=Bool.true):=@Bool.and_eq_true
theorem zC0:∀{α:Type _} (as:List α),as++[]=as:=@List.append_nil
theorem zC1:∀{α:Type _} {a:α} {as:List α},(a::as).length=as.length+1:=@List.length_cons
theorem zC2:∀{p:Prop} [inst:Decidable p],(Decidable.decide p=Bool.true)=p:=@decide_eq_true_eq
theorem zC3:∀{α:Type _} {β:Type _} {f:α->β} {a:α} {l:List α},List.map f (a::l)=f a::List.map f l:=@List.map_cons
theorem zC4:∀{α:Type _} {as:List α},as.reverse.length=as.length:=@List.length_reverse
theorem zC5:∀{α:Type _} {a:α},[a].length=1:=@List.length_singleton
theorem zC6:∀{p:Prop},¬p->p=False:=@eq_false
theorem zC7:∀{α:Type _} {i:Nat} {b:α} {xs:Array α},xs[i]? =Option.some b↔∃(h:i<xs.size),xs[i]=b:=@Array.getElem?_eq_some_iff
theorem zC8:∀{α:Type _} {p:α->Bool} {l:List α},l.all p=Bool.true↔∀(x:α),x∈l->p x=Bool.true:=@List.all_eq_true
theorem zC9:∀(n:Nat),(↑n:Int).toNat=n:=@Int.toNat_natCast
theorem zD0:∀{α:Type _} {β:Type _} {b:β} {f:α->β} {l:List α},b∈List.map f l↔∃(a:α),a∈l/\f a=b:=@List.mem_map
theorem zD1:∀{α:Type _} {l₁ l₂:List α} {i:Nat},l₁.length<=i->(l₁++l₂)[i]? =l₂[i-l₁.length]?:=@List.getElem?_append_right
theorem zD2:∀{P:Go.Program} {t:Go.TypeId} {d:Go.TypeDesc},P.underlying t=Option.some d->∀(w:Go.World),Go.Sem.run P (Go.underlying t) w=Go.Result.ok d w:=@Go.run_underlying
theorem zD3:∀{α:Type _} {i:Nat} {l:List α},(List.take i l).length=Min.min i l.length:=@List.length_take
theorem zD4:∀{α β:Type} (P:Go.Program) (w:Go.World) (x:Go.Sem α) (f:α->Go.Sem β),Go.Sem.run P (x>>=f) w=(Go.Sem.run P x w).andThen λ(a:α) (w':Go.World)=>Go.Sem.run P (f a) w':=@Go.Sem.run_bind
theorem zD5:∀{m n:Nat},m∈List.range n↔m<n:=@List.mem_range
theorem zD6:∀{α β:Type} (a:α) (w:Go.World) (f:α->Go.World->Go.Result β),(Go.Result.ok a w).andThen f=f a w:=@Go.Result.andThen_ok
theorem zD7:∀{α:Type _} {b:α} {l:List α} {a:α},a∈b::l↔a=b\/a∈l:=@List.mem_cons
theorem zD8:∀{α:Type _} {l₁ l₂:List α} {i:Nat},i<l₁.length->(l₁++l₂)[i]? =l₁[i]?:=@List.getElem?_append_left
theorem zD9:∀{n m:Nat} (k:Nat),n<=m->n*k<=m*k:=@Nat.mul_le_mul_right
theorem zE0:∀{n m k:Nat},n<=m->m<=k->n<=k:=@Nat.le_trans
theorem zE1:∀{α:Type _} (as:List α),[]++as=as:=@List.nil_append
theorem zE2:∀{α:Type _} {β:Type _} {f:α->β} {l₁ l₂:List α},List.map f (l₁++l₂)=List.map f l₁++List.map f l₂:=@List.map_append
theorem zE3:∀{α:Sort _} {x:Decidable False} (t e:α),(if False then t else e)=e:=@if_false
theorem zE4:∀{α:Type _} {β:Type _} (a:α) (f:α->β),Option.map f (Option.some a)=Option.some (f a):=@Option.map_some
theorem zE5:∀{α:Type _} {l₁ l₂:List α} {i:Nat},(l₁++l₂)[i]? =if i<l₁.length then l₁[i]? else l₂[i-l₁.length]?:=@List.getElem?_append
theorem zE6:∀{α:Type _} {l:List α},List.take l.length l=l:=@List.take_length
theorem zE7:∀{α:Type _} {a:α} {l:List α},a∈l->∃(i:Nat),∃(h:i<l.length),l[i]=a:=@List.getElem_of_mem
theorem zE8:∀{α:Type _} {β:Type _} {f:α->β},List.map f []=[]:=@List.map_nil
theorem zE9:∀(n m k:Nat),n+m+k=n+(m+k):=@Nat.add_assoc
theorem zF0:∀{α:Type _} (i:Nat) (l:List α),List.take i l++List.drop i l=l:=@List.take_append_drop
theorem zF1:∀{α:Type _} (y:α) {a:α} {l:List α},a∈l->a∈y::l:=@List.mem_cons_of_mem
theorem zF2:∀{α:Type _} (val val_1:α),(Option.some val=Option.some val_1)=(val=val_1):=@Option.some.injEq
theorem zF3:∀{α:Type _} {a:α} {l:List α},(a::l)[0]? =Option.some a:=@List.getElem?_cons_zero
theorem zF4:∀(b:Bool),(Bool.true&&b)=b:=@Bool.true_and
theorem zF5:∀{p:Prop},p->p=True:=@eq_true
theorem zF6:∀{α:Type _} {R:α->α->Prop} {a:α} {l:List α},List.Pairwise R (a::l)↔(∀(a':α),a'∈l->R a a')/\List.Pairwise R l:=@List.pairwise_cons
theorem zF7:∀{n:Nat},List.range n.succ=List.range n++[n]:=@List.range_succ
theorem zF8:∀{α:Type _} {a:α} {as bs:List α},a::as++bs=a::(as++bs):=@List.cons_append
theorem zF9:∀{α:Type _} {l:List α} {i:Nat} {a:α},l[i]? =Option.some a->a∈l:=@List.mem_of_getElem?
theorem zG0:∀{α:Type _} {xs:List α} {i j:Nat},(List.drop i xs)[j]? =xs[i+j]?:=@List.getElem?_drop
theorem zG1:∀(b:Bool),(b&&Bool.true)=b:=@Bool.and_true
theorem zG2:∀{α:Type _} {b:α} {α_1:Type _} {x:Option α_1} {f:α_1->α},Option.map f x=Option.some b↔∃(a:α_1),x=Option.some a/\f a=b:=@Option.map_eq_some_iff
theorem zG3:∀{p:Prop} {x:Decidable p},Decidable.decide p=Bool.false↔¬p:=@decide_eq_false_iff_not
theorem zG4:∀{α:Type _} {l₁ l₂:List α} {i:Nat},i<=l₁.length->List.take i (l₁++l₂)=List.take i l₁:=@List.take_append_of_le_length
theorem zG5:∀{α:Type _} {a:α} {i:Nat} {l:List α},(a::l)[i+1]? =l[i]?:=@List.getElem?_cons_succ
theorem zG6:∀{a:Int},0<=a->∃(n:Nat),a=(↑n:Int):=@Int.eq_ofNat_of_zero_le
theorem zG7:∀(n m:Nat),n^m.succ=n^m*n:=@Nat.pow_succ
theorem zG8:∀{α:Type _} (p:α->Bool) (l:List α),(List.filter p l).length<=l.length:=@List.length_filter_le
theorem zG9:∀{α:Type _} {l:List α} {i:Nat},l.length<=i->l[i]? =Option.none:=@List.getElem?_eq_none
theorem zH0:∀{α:Type _} {l:List α},l.Nodup↔List.Pairwise (λ(x1 x2:α)=>x1≠x2) l:=@List.nodup_iff_pairwise_ne
theorem zH1:∀{α:Type _} {a:α} {l:List α},a∈a::l:=@List.mem_cons_self
theorem zH2:∀{α:Type _} {l:List α} {i j:Nat},(List.take i l)[j]? =if j<i then l[j]? else Option.none:=@List.getElem?_take
theorem zH3:∀{α:Sort _} {x:Decidable True} (t e:α),(if True then t else e)=t:=@if_true
theorem zH4:∀{α:Type _} {l:List α} {α_1:Type _} {f g:α->α_1},(∀(a:α),a∈l->f a=g a)->List.map f l=List.map g l:=@List.map_congr_left
theorem zH5:∀{α:Type _} {a b:α},(Option.some a).getD b=a:=@Option.getD_some
theorem zH6:∀{α:Type _} (l₁ l₂:List α),l₂.Sublist (l₁++l₂):=@List.sublist_append_right
theorem zH7:∀{α:Type _} {a:α} {l:List α} {f:α->Bool},(a::l).all f=(f a&&l.all f):=@List.all_cons
theorem zH8:∀{α:Type _} {xs:List α} {i:Nat},xs.toArray[i]? =xs[i]?:=@List.getElem?_toArray
theorem zH9:∀(b:Bool),(Bool.false&&b)=Bool.false:=@Bool.false_and
theorem zI0:∀(n:Nat),0+n=n:=@Nat.zero_add
theorem zI1:∀{α:Type _} {as:List α} {i:Nat} {a:α},(as.set i a).length=as.length:=@List.length_set
theorem zI2:∀{α:Type} (P:Go.Program) (w:Go.World) (a:α),Go.Sem.run P (Pure.pure a) w=Go.Result.ok a w:=@Go.Sem.run_pure
theorem zI3:∀{α:Type _} {l:List α},List.drop 0 l=l:=@List.drop_zero
theorem zI4:∀{α:Type _} {i j:Nat} {l:List α},List.drop i (List.drop j l)=List.drop (j+i) l:=@List.drop_drop
theorem zI5:∀{a b:Int},0<=a->a.tmod b=a % b:=@Int.tmod_eq_emod_of_nonneg
theorem zI6:∀{α:Type _} {i:Nat} {l:List α},(List.drop i l).length=l.length-i:=@List.length_drop
theorem zI7:∀{α:Type _} {l₁ l₂:List α},(∀(i:Nat),l₁[i]? =l₂[i]?)->l₁=l₂:=@List.ext_getElem?
theorem zI8:∀(a b:Bool),((a||b)=Bool.true)=(a=Bool.true\/b=Bool.true):=@Bool.or_eq_true
theorem zI9:∀{n₁ m₁ n₂ m₂:Nat},n₁<=n₂->m₁<=m₂->n₁*m₁<=n₂*m₂:=@Nat.mul_le_mul
theorem aa{a b:Prop}(x:a)(y:b):a/\b:=⟨x,y⟩
inductive Fl where|ro|fr|own
 deriving DecidableEq
inductive PV where
 |int (k:IntKind) (n:Int)
 |bool (b:Bool)
 |str (s:List UInt8)
 |sl (o:Fl) (xs:List PV)
 |agg (xs:List PV)
 |fn (f:FuncId) (first caps:List PV)
 |nilf
 |pc (xs:List PV)
 |any
 |dl (rows:List (List PV))
 |bx (xs:List PV)
 |nl
 deriving Inhabited
inductive AV where
 |p (v:PV)
 |ref (id off len:Nat)
 |ptr (id off:Nat)
 |agg (xs:List AV)
 |tup (xs:List AV)
 |fn (f:FuncId) (first caps:List AV)
 |inn (id r off len:Nat)
 |iptr (id r off:Nat)
 |mp (id:Nat)
 |prs (id len:Nat)
 deriving Inhabited
inductive DC where
 |v (x:PV)
 |row (r:Nat)
 |self (off:Nat)
inductive Blk where
 |live (m:Bool) (c:List PV)
 |froz (m:Bool) (c:List PV)
 |deep (m:Bool) (cs:List DC) (rs:List (Option (List PV)))
 |map (m:Bool) (kt:Value->Prop) (es:List (PV×PV))
 |dead
def XZ:PV->Value
 | .int k n=>.int k n
 | .bool b=>.bool b
 | .str s=>.string ⟨s.toArray⟩
 |_=>undef
def kV:PV->Value
 | .agg xs=>.agg ⟨xs.map XZ⟩
 |x=>XZ x
open Classical in
noncomputable def mget:List (PV×PV)->PV->Option PV
 |[],_=>none
 |(k,v)::es,q=>if kV k=kV q then some v else mget es q
def canon(n:Nat):List DC:=(List.range n).map .row
def canonS(n:Nat):List DC:=(List.range n).map λj=>.row (n+j)
def xx(m:Bool):List PV->Blk
 |[.dl rows]=>.deep m (canon rows.length) (rows.map some)
 |c=>.live m c
def xy:List PV->Nat
 |[.dl rows]=>rows.length
 |c=>c.length
structure St where
 e:Nat->AV
 h:Nat->Blk
 n:Nat
def St.put(S:St)(d:Nat)(v:AV):St:={S with e:=λt=>if t=d then v else S.e t}
def St.nx(S:St)(k:Nat):St:={S with n:=S.n+k}
def St.puto(S:St)(d:Option Nat)(v:AV):St:=
 match d with
 |some d=>S.put d v
 |none=>S
def hwsH(h:Nat->Blk):List (Nat×Blk)->Nat->Blk
 |[]=>h
 |(i,b)::l=>hwsH (λj=>if j=i then b else h j) l
def St.hws(S:St)(l:List (Nat×Blk)):St:={S with h:=hwsH S.h l}
structure R where
 v:AV
 ws:List (Nat×Blk)
 rd:List Nat
def sf(k:IntKind)(n:Int):Prop:=k.min<=n/\n<=k.max
def big:Nat:=1099511627776
def bM:Value->PV
 | .int k n=>.int k n
 | .bool b=>.bool b
 | .string s=>.str s.data.toList
 | .slice none 0 0=>.sl .own []
 | .nilFunc=>.nilf
 |_=>.any
def gV:Value->PV
 | .agg cs=>.agg (cs.toList.map bM)
 |v=>bM v
def BH(S:St):Operand->AV
 | .tmp t=>S.e t
 | .const v=>.p (gV v)
 | .func f=>.p (.fn f [] [])
 | .global _=>.p .any
def PV.cellOk:PV->Bool
 | .agg _| .any| .pc _| .dl _| .bx _=>false
 | .sl .own _=>false
 |_=>true
def PV.cell:PV->PV
 | .sl .own _=>.sl .fr []
 |x=>x
def Fl.lent(m:Bool):Fl:=bif m then .ro else .fr
def Ek(h:Nat->Blk)(v:AV)(K:PV->List (Nat×Blk)->List Nat->Prop):Prop:=
 match v with
 | .p x=>x.cell.cellOk=true/\K x.cell [] []
 | .ref id off len=>match h id with
  | .live m c=>off+len<=c.length/\K (.sl (.lent m) ((c.drop off).take len)) [(id,.froz m c)] [id]
  | .froz m c=>off+len<=c.length/\K (.sl (.lent m) ((c.drop off).take len)) [] [id]
  |_=>False
 |_=>False
def nQ(h:Nat->Blk):List AV->(List PV->List (Nat×Blk)->List Nat->Prop)->Prop
 |[],K=>K [] [] []
 |v::vs,K=>Ek h v λx ws rd=>nQ h vs λxs ws' rd'=>K (x::xs) (ws++ws') (rd++rd')
def DC.rd(rs:List (Option (List PV))):DC->PV
 | .v x=>x
 | .row r=>match rs[r]? with
  |some (some c)=>.sl .ro c
  |_=>.any
 | .self _=>.any
def mY(h:Nat->Blk)(v:AV)(K:PV->List Nat->Prop):Prop:=
 match v with
 | .p x=>K x.cell []
 | .ref id off len=>match h id with
  | .live _ c=>off+len<=c.length/\K (.sl .ro ((c.drop off).take len)) [id]
  | .froz m c=>off+len<=c.length/\K (.sl (.lent m) ((c.drop off).take len)) [id]
  | .deep _ cs rs=>off+len<=cs.length/\K (.sl .ro (((cs.map (DC.rd rs)).drop off).take len)) [id]
  |_=>False
 | .ptr id off=>match h id with
  | .live _ c=>K (.pc (c.drop off)) [id]
  | .froz _ c=>K (.pc (c.drop off)) [id]
  | .deep _ cs rs=>K (.pc ((cs.map (DC.rd rs)).drop off)) [id]
  |_=>False
 | .inn id r off len=>match h id with
  | .deep _ _ rs=>(match rs[r]? with
   |some (some c)=>off+len<=c.length/\K (.sl .ro ((c.drop off).take len)) [id]
   |_=>False)
  |_=>False
 |_=>False
def gH(h:Nat->Blk):List AV->(List PV->List Nat->Prop)->Prop
 |[],K=>K [] []
 |v::vs,K=>mY h v λx rd=>gH h vs λxs rd'=>K (x::xs) (rd++rd')
def Ej(h:Nat->Blk)(v:AV)(K:PV->List Nat->Prop):Prop:=
 match v with
 | .agg xs=>gH h xs λys rd=>K (.agg ys) rd
 | .fn f first caps=>gH h first λys rd=>gH h caps λzs rd'=>K (.fn f ys zs) (rd++rd')
 |v=>mY h v K
def oP(h:Nat->Blk)(v:AV)(K:List PV->List Nat->Prop):Prop:=
 match v with
 | .p (.sl _ xs)=>K xs []
 | .p (.str s)=>K (s.map λb=>.int .u8 b.toNat) []
 | .ref id off len=>match h id with
  | .live _ c=>off+len<=c.length/\K ((c.drop off).take len) [id]
  | .froz _ c=>off+len<=c.length/\K ((c.drop off).take len) [id]
  |_=>False
 | .inn id r off len=>match h id with
  | .deep _ _ rs=>(match rs[r]? with
   |some (some c)=>off+len<=c.length/\K ((c.drop off).take len) [id]
   |_=>False)
  |_=>False
 |_=>False
def gt{α:Type}(xs:List α)(i:Int)(K:α->Prop):Prop:=0<=i/\match xs[i.toNat]? with|some x=>K x|none=>False
def jK(P:Program)(t:TypeId):Option (Nat×PV):=
 match P.underlying t with
 |some (.slice e)=>match P.info? e with
  |some i=>match i.zero with
   |some z=>if i.size=1/\z.cells.size=1/\z.oneCell'=true/\i.bytes<=64 then some (i.bytes,(bM z).cell)else none
   |none=>none
  |none=>none
 |_=>none
def Cn(P:Program)(t:TypeId):Option IntKind:=
 match P.underlying t with
 |some (.int k)=>some k
 |_=>none
def jX(P:Program)(t:TypeId):Bool:=
 match P.underlying t with
 |some .string=>true
 |_=>false
def wQ(P:Program)(t:TypeId):Bool:=
 match P.underlying t with
 |some .bool=>true
 |_=>false
def pU(P:Program)(t:TypeId):Option (Nat×Bool):=
 match P.underlying t,P.info? t with
 |some (.struct _),some i=>some (i.size,true)
 |some (.array _ _),some i=>some (i.size,true)
 |some _,some i=>some (i.size,false)
 |_,_=>none
def ip(P:Program)(t:TypeId):Option (List PV):=
 match P.info? t with
 |some i=>match i.zero with
  |some z=>some (z.cells.toList.map λv=>(bM v).cell)
  |none=>none
 |none=>none
def nc(P:Program)(t:TypeId)(f:Nat):Option (Nat×Nat×Bool):=
 match P.underlying t with
 |some (.struct fs)=>match fs[f]? with
  |some x=>match pU P x.type with
   |some (n,b)=>some (x.offset,n,b)
   |none=>none
  |none=>none
 |_=>none
def ZF(P:Program)(t:TypeId):Option Nat:=
 match P.underlying t with
 |some (.array n e)=>match P.info? e with
  |some i=>if i.size=1/\2<=n then some n else none
  |none=>none
 |_=>none
structure Loc where
 B:Nat
 off:Nat
 cap:Nat
 n:Nat
 inn:Nat->Nat×Nat×Nat
def bC:Nat->Nat×Nat×Nat:=λ_=>(0,0,0)
def Loc.sub(l:Loc)(r:Nat):Loc:=⟨(l.inn r).1,(l.inn r).2.1,(l.inn r).2.2,0,bC⟩
def Loc.shL(l:Loc)(n:Nat):Loc:=⟨l.B,l.off,l.cap,n,λr=>l.inn (n+r)⟩
def LocEq(l l':Loc):Prop:=l'.B=l.B/\l'.off=l.off/\l'.cap=l.cap/\l.n<=l'.n/\∀r,r<l.n->l'.inn r=l.inn r
theorem LocEq.refl(l:Loc):LocEq l l:=⟨rfl,rfl,rfl,zB1 _,λ_ _=>rfl⟩
theorem LocEq.of_eq{l l':Loc}(e:l'=l):LocEq l l':=e▸LocEq.refl l
theorem LocEq.trans{a b c:Loc}(h:LocEq a b)(k:LocEq b c):LocEq a c:=
 ⟨k.1.trans h.1,k.2.1.trans h.2.1,k.2.2.1.trans h.2.2.1,zE0 h.2.2.2.1 k.2.2.2.1,λr hr=>(k.2.2.2.2 r (Nat.lt_of_lt_of_le hr h.2.2.2.1)).trans (h.2.2.2.2 r hr)⟩
theorem LocEq.sub{l l':Loc}(h:LocEq l l')(hr:r<l.n):l'.sub r=l.sub r:=by simp only[Loc.sub,h.2.2.2.2 r hr]
inductive Arg where
 |pv (v:PV)
 |mu (ptr:Bool) (c:List PV)
mutual
def RepP(w:World)(F G:Nat->Prop):PV->Value->Prop
 | .int k n,v=>v=.int k n
 | .bool b,v=>v=.bool b
 | .str s,v=>v=.string ⟨s.toArray⟩
 | .sl o xs,v=>∃a cap,v=.slice a xs.length cap/\xs.length<=cap/\cap<=maxLen/\(o=.own->xs=[]/\a=none/\cap=0)/\
   (xs=[]\/∃B off,a=some ⟨B,off,none⟩/\¬F B/\(o=.fr->G B)/\RepC w F G B off xs)
 | .agg xs,v=>∃cs,v=.agg ⟨cs⟩/\RepL w F G xs cs
 | .fn f first caps,v=>∃a b,v=.func (.func f) ⟨a⟩ ⟨b⟩/\RepL w F G first a/\RepL w F G caps b
 | .nilf,v=>v=.nilFunc
 | .pc xs,v=>∃B off,v=.pointer (some ⟨B,off,none⟩)/\(xs=[]\/¬F B)/\RepC w F G B off xs
 | .any,_=>True
 | .dl _,_=>False
 | .bx _,_=>False
 | .nl,v=>v=.slice none 0 0
def RepC(w:World)(F G:Nat->Prop)(B:Nat):Nat->List PV->Prop
 |_,[]=>True
 |o,x::xs=>(∃v,w.cell? ⟨B,o,none⟩=some v/\v.oneCell'=true/\RepP w F G x v)/\RepC w F G B (o+1) xs
def RepL(w:World)(F G:Nat->Prop):List PV->List Value->Prop
 |[],vs=>vs=[]
 |x::xs,vs=>∃v vs',vs=v::vs'/\RepP w F G x v/\RepL w F G xs vs'
end
mutual
def RepA(w:World)(F G:Nat->Prop)(ι:Nat->Loc):AV->Value->Prop
 | .p x,v=>RepP w F G x v
 | .ref id off len,v=>∃a cap,v=.slice a len cap/\len<=cap/\off+cap=(ι id).cap/\(ι id).cap<=maxLen/\(cap=0\/a=some ⟨(ι id).B,(ι id).off+off,none⟩)
 | .ptr id off,v=>v=.pointer (some ⟨(ι id).B,(ι id).off+off,none⟩)
 | .agg xs,v=>∃cs,v=.agg ⟨cs⟩/\RepAL w F G ι xs cs
 | .tup xs,v=>∃cs,v=.tuple ⟨cs⟩/\RepAL w F G ι xs cs
 | .fn f first caps,v=>∃a b,v=.func (.func f) ⟨a⟩ ⟨b⟩/\RepAL w F G ι first a/\RepAL w F G ι caps b
 | .inn id r off len,v=>r<(ι id).n/\∃a cap,v=.slice a len cap/\len<=cap/\off+cap=((ι id).sub r).cap/\((ι id).sub r).cap<=maxLen/\(cap=0\/a=some ⟨((ι id).sub r).B,((ι id).sub r).off+off,none⟩)
 | .iptr id r off,v=>r<(ι id).n/\v=.pointer (some ⟨((ι id).sub r).B,((ι id).sub r).off+off,none⟩)
 | .mp id,v=>v=.map (some (ι id).B)
 | .prs id len,v=>v=.slice (some ⟨(ι id).B,(ι id).off,none⟩) len len
def RepAL(w:World)(F G:Nat->Prop)(ι:Nat->Loc):List AV->List Value->Prop
 |[],vs=>vs=[]
 |x::xs,vs=>∃v vs',vs=v::vs'/\RepA w F G ι x v/\RepAL w F G ι xs vs'
end
mutual
def AV.has:AV->Nat->Bool
 | .p _,_=>false
 | .ref id _ _,i=>id==i
 | .ptr id _,i=>id==i
 | .agg xs,i=>AV.hasL xs i
 | .tup xs,i=>AV.hasL xs i
 | .fn _ a b,i=>AV.hasL a i||AV.hasL b i
 | .inn id _ _ _,i=>id==i
 | .iptr id _ _,i=>id==i
 | .mp id,i=>id==i
 | .prs id _,i=>id==i
def AV.hasL:List AV->Nat->Bool
 |[],_=>false
 |x::xs,i=>x.has i||AV.hasL xs i
end
def owns:Blk->Loc->Nat->Prop
 | .live _ _,l,B=>l.cap≠0/\l.B=B
 | .deep _ _ rs,l,B=>(l.cap≠0/\l.B=B)\/∃r c,rs[r]? =some (some c)/\(l.sub r).cap≠0/\(l.sub r).B=B
 | .map _ _ _,l,B=>l.cap≠0/\l.B=B
 |_,_,_=>False
def Held(h:Nat->Blk)(ι:Nat->Loc)(B:Nat):Prop:=∃id,owns (h id) (ι id) B
def SB:Bool:=false
def RowAt(w:World)(l:Loc):Prop:=
 ∃cs E lo hi,w.heap[l.B]? =some (.cells cs E (lo,hi))/\l.off+l.cap<=cs.size/\(hi<=lo\/SB=true/\cs.size<=lo)
def Org(w0:Nat)(M G:Nat->Prop)(m:Bool)(B:Nat):Prop:=(w0<=B/\G B)\/(m=true/\M B)
def rowOk(w:World)(F G O:Nat->Prop)(l:Loc)(c:List PV):Prop:=
 c.length<=l.cap/\l.cap<=maxLen/\(l.cap=0\/(RowAt w l/\RepC w F G l.B l.off c/\O l.B))
def tT(l:Loc)(len:Nat)(v:Value):Prop:=∃a,v=.slice a len l.cap/\(l.cap=0\/a=some ⟨l.B,l.off,none⟩)
def dcRep(w:World)(F G:Nat->Prop)(l:Loc)(rs:List (Option (List PV))):DC->Value->Prop
 | .v x,v=>RepP w F G x v
 | .row r,v=>r<rs.length/\∀c,rs[r]? =some (some c)->tT (l.sub r) c.length v
 | .self o,v=>v=.pointer (some ⟨l.B,l.off+o,none⟩)
structure MapOk(w:World)(F G:Nat->Prop)(kt:Value->Prop)(es:List (PV×PV))(A:Array MapEntry):Prop where
 keys:∀e∈A.toList,kt e.key
 apart:A.toList.Pairwise λe e'=>e.key≠e'.key
 no:∀q,mget es q=none->∀e∈A.toList,e.key≠kV q
 yes:∀q x,mget es q=some x->∃e∈A.toList,e.key=kV q/\RepP w F G x e.val
def okB(w:World)(F G:Nat->Prop)(O:Bool->Nat->Prop):Blk->Loc->Prop
 | .live m c,l=>rowOk w F G (O m) l c
 | .froz m c,l=>c.length<=l.cap/\l.cap<=maxLen/\(c=[]\/(¬F l.B/\(m=false->G l.B)/\RepC w F G l.B l.off c))
 | .deep m cs rs,l=>rs.length=l.n/\(cs.length<=l.cap/\l.cap<=maxLen/\(l.cap=0\/(RowAt w l/\O m l.B/\
   ∀(j:Nat) (x:DC),cs[j]? =some x->∃v,w.cell? ⟨l.B,l.off+j,none⟩=some v/\v.oneCell'=true/\dcRep w F G l rs x v)))/\
  (∀r c,rs[r]? =some (some c)->rowOk w F G (O m) (l.sub r) c)/\
  (∀r c r' c',rs[r]? =some (some c)->rs[r']? =some (some c')->r≠r'->(l.sub r).cap≠0->(l.sub r').cap≠0->(l.sub r).B≠(l.sub r').B)/\
  (∀r c,rs[r]? =some (some c)->l.cap≠0->(l.sub r).cap≠0->(l.sub r).B≠l.B)
 | .map m kt es,l=>l.cap≠0/\O m l.B/\∃A clock,w.heap[l.B]? =some (.map A clock)/\MapOk w F G kt es A
 | .dead,_=>True
structure HeapOk(w:World)(w0:Nat)(M:Nat->Prop)(G:Nat->Prop)(h:Nat->Blk)(ι:Nat->Loc):Prop where
 ok:∀id,okB w (Held h ι) G (Org w0 M G) (h id) (ι id)
 apart:∀id id' B,owns (h id) (ι id) B->owns (h id') (ι id') B->id=id'
theorem HeapOk.live{h:Nat->Blk}{ι:Nat->Loc}(ok:HeapOk w w0 M G h ι)(id:Nat)(m:Bool)(c:List PV)(hl:h id=.live m c):c.length<=(ι id).cap/\(ι id).cap<=maxLen/\
  ((ι id).cap=0\/(RowAt w (ι id)/\RepC w (Held h ι) G (ι id).B (ι id).off c/\((w0<=(ι id).B/\G (ι id).B)\/(m=true/\M (ι id).B)))):=by
 have:=ok.ok id;rw[hl]at this;exact this
theorem HeapOk.froz{h:Nat->Blk}{ι:Nat->Loc}(ok:HeapOk w w0 M G h ι)(id:Nat)(m:Bool)(c:List PV)(hl:h id=.froz m c):c.length<=(ι id).cap/\(ι id).cap<=maxLen/\
  (c=[]\/(¬Held h ι (ι id).B/\(m=false->G (ι id).B)/\RepC w (Held h ι) G (ι id).B (ι id).off c)):=by
 have:=ok.ok id;rw[hl]at this;exact this
theorem kf{h:Nat->Blk}{ι:Nat->Loc}{c:List PV}(hl:h id=.live m c)(hc:(ι id).cap≠0):owns (h id) (ι id) (ι id).B:=by rw[hl];exact⟨hc,rfl⟩
def Arg.av(j:Nat):Arg->AV
 | .pv x=>.p x
 | .mu false c=>.ref j 0 (xy c)
 | .mu true _=>.ptr j 0
def bA:Nat->List Arg->List AV
 |_,[]=>[]
 |j,a::as=>a.av j::bA (j+1) as
def bH(as:List Arg)(j:Nat):Blk:=
 match as[j]? with
 |some (.mu _ c)=>xx true c
 |_=>.dead
def fQ(as:List Arg)(ι:Nat->Loc)(B:Nat):Prop:=Held (bH as) ι B
def imp1(k:Nat):PV->AV
 | .sl .own xs=>.ref k 0 xs.length
 | .dl rows=>.ref k 0 rows.length
 | .bx _=>.ptr k 0
 |x=>.p x
def impW1(m:Bool)(k:Nat):PV->List (Nat×Blk)
 | .sl .own xs=>[(k,.live m xs)]
 | .dl rows=>[(k,.deep m (canon rows.length) (rows.map some))]
 | .bx xs=>[(k,.live m xs)]
 |_=>[]
def impL(k:Nat):List PV->List AV
 |[]=>[]
 |x::xs=>imp1 k x::impL (k+1) xs
def impWL(m:Bool)(k:Nat):List PV->List (Nat×Blk)
 |[]=>[]
 |x::xs=>impW1 m k x++impWL m (k+1) xs
def imp(k:Nat):PV->AV
 | .agg xs=>.agg (impL (k+1) xs)
 |x=>imp1 k x
def impW(m:Bool)(k:Nat):PV->List (Nat×Blk)
 | .agg xs=>impWL m (k+1) xs
 |x=>impW1 m k x
def imps(k:Nat):List PV->List AV
 |[]=>[]
 |x::xs=>imp k x::imps (k+16) xs
def impWs(m:Bool)(k:Nat):List PV->List (Nat×Blk)
 |[]=>[]
 |x::xs=>impW m k x++impWs m (k+16) xs
def impAll(k:Nat):List PV->AV
 |[x]=>imp k x
 |xs=>.tup (imps k xs)
def gK(as:List Arg)(outs:List (Option (List PV)))(j:Nat):Blk:=
 match as[j]? with
 |some (.mu _ _)=>match outs[j]? with
  |some (some c)=>xx true c
  |_=>.dead
 |_=>.dead
def aZ(tk:Bool)(as:List Arg)(outs:List (Option (List PV)))(res:List PV):Nat->Blk:=
 hwsH (gK as outs) (impWs tk as.length res)
mutual
def noRo:PV->Bool
 | .sl .ro _=>false
 | .sl _ xs=>noRoL xs
 | .agg xs=>noRoL xs
 | .pc _| .fn .. | .any=>false
 | .dl rows=>noRoLL rows
 | .bx xs=>noRoL xs
 |_=>true
def noRoL:List PV->Bool
 |[]=>true
 |x::xs=>noRo x&&noRoL xs
def noRoLL:List (List PV)->Bool
 |[]=>true
 |x::xs=>noRoL x&&noRoLL xs
end
theorem dv{α:Type}{f:α->PV}(h:∀a,noRo (f a)=true):∀xs:List α,noRoL (xs.map f)=true
 |[]=>rfl
 |x::xs=>by simp only[zC3,noRoL,h x,dv h xs,Bool.and_self]
def iO:PV->Bool
 | .agg xs=>decide (xs.length<=14)
 |_=>true
def jA(res:List PV):Bool:=decide (res.length<=15)&&res.all iO
class Amb where
 tb:Nat->Option Obj
 q:Bool
class AmbOk[Amb](w:World)(M:Nat->Prop):Prop where
 ok:∀B o,Amb.tb B=some o->w.heap[B]? =some o
 off:∀B o,Amb.tb B=some o->¬M B
@[reducible] def agX:Amb:=⟨λ_=>none,false⟩
class NoQ[Amb]:Prop where
 no:Amb.q=false
structure Keep[Amb](w w':World)(M:Nat->Prop):Prop where
 os:w'.os=w.os
 tape:w'.tape=w.tape
 output:w'.output=w.output
 size:w.heap.size<=w'.heap.size
 block:∀k,k<w.heap.size->¬M k->w'.heap[k]? =w.heap[k]?
 drawn:Amb.q=true->w.drawn<=w'.drawn
def CallT[Amb](P:Program)(tk:Bool)(f:FuncId)(as:List Arg)(outs:List (Option (List PV)))(res:List PV):Prop:=
 (∃fn,P.funcs[f]? =some fn/\fn.body.isSome=true/\(fn.name== "runtime.NumGoroutine")=false)/\noRoL res=true/\jA res=true/\(outs.all λo=>o.all noRoL)=true/\
 ∀(w:World) (G:Nat->Prop) (ι:Nat->Loc) (vs:List Value),AmbOk w (fQ as ι)->(∀B,w.heap.size<=B->G B)->HeapOk w w.heap.size (fQ as ι) G (bH as) ι->
  RepAL w (Held (bH as) ι) G ι (bA 0 as) vs->
  Calls P f ⟨vs⟩ w λe w'=>∃v ι',e=.returned v/\(∀j,j<as.length->LocEq (ι j) (ι' j))/\Keep w w' (fQ as ι)/\
   HeapOk w' w.heap.size (fQ as ι) G (aZ tk as outs res) ι'/\RepA w' (Held (aZ tk as outs res) ι') G ι' (impAll as.length res) v
def Fun[Amb](P:Program)(f:FuncId)(args res:List PV):Prop:=CallT P false f (args.map .pv) [] res
def qm(k:Nat)(v:AV)(K:R->Prop):Prop:=
 match v with
 | .p (.sl .own xs)=>K ⟨.ref k 0 xs.length,[(k,.live false xs)],[]⟩
 |v=>K ⟨v,[],[]⟩
def my(c a b:AV)(K:AV->Prop):Prop:=
 match c with
 | .p (.bool t)=>match a,b with
  | .p (.bool x),.p (.bool y)=>K (.p (.bool (bif t then x else y)))
  |a,b=>K (bif t then a else b)
 |_=>False
def yd:List UInt8->List UInt8->Bool
 |_,[]=>false
 |[],_::_=>true
 |a::x,b::y=>a<b||(a==b&&yd x y)
def BR(x:AV)(K:Bool->Prop):Prop:=
 match x with
 | .p .nl=>K true
 | .p (.sl .own _)=>K true
 | .p (.sl _ xs)=>0<xs.length/\K false
 | .ref _ _ len=>0<len/\K false
 | .inn _ _ _ len=>0<len/\K false
 |_=>False
def HK(P:Program)(t:TypeId):Prop:=∃e,P.underlying t=some (.slice e)
def jr(P:Program)(op:BinOp)(t:TypeId)(x y:AV)(K:PV->Prop):Prop:=
 match x,y with
 | .p (.int k a),.p (.int k' b)=>
  match op with
  | .add=>k=k'/\sf k (a+b)/\K (.int k (a+b))
  | .sub=>k=k'/\sf k (a-b)/\K (.int k (a-b))
  | .mul=>k=k'/\sf k (a*b)/\K (.int k (a*b))
  | .quo=>k=k'/\b≠0/\sf k (a.tdiv b)/\K (.int k (a.tdiv b))
  | .rem=>k=k'/\b≠0/\K (.int k (a.tmod b))
  | .shl=>0<=b/\b<k.bits/\sf k (a*2^b.toNat)/\K (.int k (a*2^b.toNat))
  | .shr=>0<=b/\b<k.bits/\K (.int k (a.fdiv (2^b.toNat)))
  | .and=>k=k'/\0<=a/\0<=b/\sf k a/\sf k b/\K (.int k ((a.toNat&&& b.toNat:Nat):Int))
  | .eql=>k=k'/\K (.bool (decide (a=b)))
  | .neq=>k=k'/\K (.bool (!decide (a=b)))
  | .lss=>k=k'/\K (.bool (decide (a<b)))
  | .leq=>k=k'/\K (.bool (decide (a<=b)))
  | .gtr=>k=k'/\K (.bool (decide (b<a)))
  | .geq=>k=k'/\K (.bool (decide (b<=a)))
  |_=>False
 | .p (.str a),.p (.str b)=>
  match op with
  | .add=>a.length+b.length<=2^60/\K (.str (a++b))
  | .eql=>K (.bool (decide (a=b)))
  | .neq=>K (.bool (!decide (a=b)))
  | .lss=>K (.bool (yd a b))
  |_=>False
 | .p (.bool a),.p (.bool b)=>
  match op with
  | .eql=>wQ P t=true/\K (.bool (a==b))
  | .neq=>wQ P t=true/\K (.bool (!(a==b)))
  |_=>False
 |x,.p (.sl .own _)=>
  match op with
  | .eql=>HK P t/\BR x λb=>K (.bool b)
  | .neq=>HK P t/\BR x λb=>K (.bool (!b))
  |_=>False
 |_,_=>False
def T4(op:UnOp)(x:AV)(K:PV->Prop):Prop:=
 match op,x with
 | .not,.p (.bool b)=>K (.bool (!b))
 | .neg,.p (.int k a)=>sf k (0-a)/\K (.int k (0-a))
 |_,_=>False
def ZQ(P:Program)(t:TypeId):Bool:=
 match P.underlying t with
 |some (.slice e)=>match Cn P e with
  |some .u8=>true
  |_=>false
 |_=>false
def mN(P:Program)(src dst:TypeId)(k:Nat)(h:Nat->Blk)(x:AV)(K:R->Prop):Prop:=
 match x with
 | .p (.int _ n)=>match Cn P dst with
  |some kd=>(P.underlying src).isSome=true/\sf kd n/\K ⟨.p (.int kd n),[],[]⟩
  |none=>False
 | .p (.str s)=>jX P src=true/\if jX P dst then K ⟨x,[],[]⟩else
  (jK P dst).isSome=true/\ZQ P dst=true/\s.length<=big/\SB=true/\
   K ⟨.ref k 0 s.length,[(k,.live false (s.map λb=>.int .u8 b.toNat))],[]⟩
 |x=>jX P dst=true/\(jK P src).isSome=true/\ZQ P src=true/\oP h x λxs rd=>
   ∃s:List UInt8,xs=s.map (λb=>PV.int .u8 b.toNat)/\K ⟨.p (.str s),[],rd⟩
def tO(P:Program)(t:TypeId)(k:Nat)(l c:AV)(K:R->Prop):Prop:=
 match l,c with
 | .p (.int _ a),.p (.int _ b)=>0<=a/\a<=b/\b<=1099511627776/\(match jK P t with
  |some (_,z)=>z.cellOk=true/\K ⟨.ref k 0 a.toNat,[(k,.live false (List.replicate a.toNat z))],[]⟩
  |none=>False)
 |_,_=>False
def gU(n:Nat)(parts:Array (Nat×Operand)):Bool:=parts.toList.map (·.1)==List.range n
def nJ(P:Program)(t:TypeId):Bool:=
 match P.underlying t with
 |some (.slice e)=>(match P.info? e with
  |some i=>i.zero.isSome&&decide (i.size=2)
  |none=>false)
 |_=>false
def prC(v:AV)(F:PV->PV->Prop):Prop:=
 match v with
 | .agg [.p x,.p y]=>x.cellOk=true/\y.cellOk=true/\F x y
 |_=>False
def HS:List AV->(List PV->Prop)->Prop
 |[],K=>K []
 |v::vs,K=>prC v λx y=>HS vs λxs=>K (x::y::xs)
def bP(P:Program)(t:TypeId)(n:Nat)(parts:Array (Nat×Operand))(k:Nat)(ρ:Operand->AV)(h:Nat->Blk)(K:R->Prop):Prop:=
 if nJ P t=true then gU n parts=true/\1<=n/\n<=1000000/\HS (parts.toList.map λp=>ρ p.2) λxs=>K ⟨.prs k n,[(k,.live false xs)],[]⟩
 else(jK P t).isSome=true/\gU n parts=true/\n<=1000000/\nQ h (parts.toList.map λp=>ρ p.2) λxs ws rd=>
  K ⟨.ref k 0 n,ws++[(k,.live false xs)],rd⟩
def ll(ρ:Operand->AV)(x:Option Operand)(d:Nat)(K:Int->Prop):Prop:=
 match x with
 |none=>K d
 |some o=>match ρ o with
  | .p (.int _ i)=>K i
  |_=>False
def eC(P:Program)(t:TypeId)(x:AV)(lo hi mx:Option Operand)(k:Nat)(ρ:Operand->AV)(K:R->Prop):Prop:=
 match x with
 | .p (.str s)=>mx=none/\jX P t=true/\ll ρ hi s.length λh=>ll ρ lo 0 λl=>0<=l/\l<=h/\h<=s.length/\K ⟨.p (.str ((s.take h.toNat).drop l.toNat)),[],[]⟩
 | .p (.sl o xs)=>(jK P t).isSome=true/\(match mx with
  |none=>ll ρ hi xs.length λh=>ll ρ lo 0 λl=>0<=l/\l<=h/\h<=xs.length/\K ⟨.p (.sl o ((xs.take h.toNat).drop l.toNat)),[],[]⟩
  |some _=>hi≠none/\ll ρ mx 0 λm=>ll ρ hi 0 λh=>ll ρ lo 0 λl=>l=0/\h=0/\m=0/\K ⟨.ref k 0 0,[(k,.live false [])],[]⟩)
 | .ref id off len=>(jK P t).isSome=true/\(match mx with
  |none=>ll ρ hi len λh=>ll ρ lo 0 λl=>0<=l/\l<=h/\h<=len/\K ⟨.ref id (off+l.toNat) (h.toNat-l.toNat),[],[]⟩
  |some _=>hi≠none/\ll ρ mx 0 λm=>ll ρ hi 0 λh=>ll ρ lo 0 λl=>l=0/\h=0/\m=0/\K ⟨.ref k 0 0,[(k,.live false [])],[]⟩)
 | .inn id r off len=>(jK P t).isSome=true/\(match mx with
  |none=>ll ρ hi len λh=>ll ρ lo 0 λl=>0<=l/\l<=h/\h<=len/\K ⟨.inn id r (off+l.toNat) (h.toNat-l.toNat),[],[]⟩
  |some _=>hi≠none/\ll ρ mx 0 λm=>ll ρ hi 0 λh=>ll ρ lo 0 λl=>l=0/\h=0/\m=0/\K ⟨.ref k 0 0,[(k,.live false [])],[]⟩)
 |_=>False
def bZ(P:Program)(t:TypeId)(x i:AV)(K:AV->Prop):Prop:=
 match i with
 | .p (.int _ i)=>match x with
  | .p (.sl _ xs)=>(jK P t).isSome=true/\gt xs i λx=>K (.p (.pc [x]))
  | .ref id off len=>(jK P t).isSome=true/\0<=i/\i<len/\K (.ptr id (off+i.toNat))
  | .inn id r off len=>(jK P t).isSome=true/\0<=i/\i<len/\K (.iptr id r (off+i.toNat))
  | .ptr id off=>(match ZF P t with|some n=>0<=i/\i<n/\K (.ptr id (off+i.toNat))|none=>False)
  | .prs id len=>nJ P t=true/\0<=i/\i<len/\K (.ptr id (i.toNat*2))
  |_=>False
 |_=>False
def oD(P:Program)(t:TypeId)(x i:AV)(K:AV->Prop):Prop:=
 match i with
 | .p (.int _ i)=>match x with
  | .p (.str s)=>jX P t=true/\gt s i λb=>K (.p (.int .u8 b.toNat))
  |_=>False
 |_=>False
def DC.av(id:Nat)(rs:List (Option (List PV))):DC->AV
 | .v x=>.p x
 | .row r=>match rs[r]? with
  |some (some c)=>.inn id r 0 c.length
  |_=>.p .any
 | .self o=>.ptr id o
def gq(P:Program)(t:TypeId)(h:Nat->Blk)(a:AV)(K:R->Prop):Prop:=
 match pU P t with
 |some (n,false)=>n=1/\(match a with
  | .p (.pc (x::_))=>K ⟨.p x,[],[]⟩
  | .ptr id off=>match h id with
   | .live _ c=>gt c off λx=>K ⟨.p x,[],[id]⟩
   | .froz _ c=>gt c off λx=>K ⟨.p x,[],[id]⟩
   | .deep _ cs rs=>gt cs off λx=>K ⟨x.av id rs,[],[id]⟩
   |_=>False
  | .iptr id r off=>match h id with
   | .deep _ _ rs=>(match rs[r]? with
    |some (some c)=>gt c off λx=>K ⟨.p x,[],[id]⟩
    |_=>False)
   |_=>False
  |_=>False)
 |some (n,true)=>(match a with
  | .p (.pc xs)=>n<=xs.length/\K ⟨.p (.agg (xs.take n)),[],[]⟩
  | .ptr id off=>match h id with
   | .live _ c=>off+n<=c.length/\K ⟨.p (.agg ((c.drop off).take n)),[],[id]⟩
   | .froz _ c=>off+n<=c.length/\K ⟨.p (.agg ((c.drop off).take n)),[],[id]⟩
   | .deep _ cs rs=>off+n<=cs.length/\K ⟨.agg (((cs.drop off).take n).map (DC.av id rs)),[],[id]⟩
   |_=>False
  |_=>False)
 |none=>False
def fm(h:Nat->Blk)(v:AV)(K:List PV->List (Nat×Blk)->List Nat->Prop):Prop:=
 match v with
 | .p (.agg xs)=>xs.all (λx=>x.cell.cellOk)=true/\K (xs.map PV.cell) [] []
 | .agg vs=>nQ h vs K
 |v=>Ek h v λx ws rd=>K [x] ws rd
def xh(h:Nat->Blk)(mt:Bool)(id:Nat)(v:AV)(rs:List (Option (List PV)))(K:DC->List (Option (List PV))->List (Nat×Blk)->List Nat->Prop):Prop:=
 match v with
 | .p x=>x.cellOk=true/\K (.v x) rs [] []\/x=.sl .own []/\K (.v x) rs [] []
 | .ref j off len=>j≠id/\(match h j with
  | .live m c=>(m=true->mt=true)/\off=0/\len=c.length/\K (.row rs.length) (rs++[some c]) [(j,.dead)] [j]
  | .froz m c=>off+len<=c.length/\K (.v (.sl (.lent m) ((c.drop off).take len))) rs [] [j]
  |_=>False)
 | .inn j r off len=>off=0/\if j=id then(match rs[r]? with
   |some (some c)=>len=c.length/\K (.row r) rs [] []
   |_=>False)
  else(match h j with
   | .deep false cs' rs'=>(match rs'[r]? with
    |some (some c)=>len=c.length/\K (.row rs.length) (rs++[some c]) [(j,.deep false cs' (rs'.set r none))] [j]
    |_=>False)
   |_=>False)
 | .ptr j o=>j=id/\K (.self o) rs [] []
 |_=>False
def kO(h:Nat->Blk)(mt:Bool)(id:Nat):List AV->List (Option (List PV))->(List DC->List (Option (List PV))->List (Nat×Blk)->List Nat->Prop)->Prop
 |[],rs,K=>K [] rs [] []
 |v::vs,rs,K=>xh h mt id v rs λx rs ws rd=>kO (hwsH h ws) mt id vs rs λxs rs ws' rd'=>K (x::xs) rs (ws++ws') (rd++rd')
def i7:AV->List AV
 | .p (.agg xs)=>xs.map .p
 | .agg vs=>vs
 |v=>[v]
def HP(h:Nat->Blk)(id r off:Nat)(v:AV)(K:R->Prop):Prop:=
 match v with
 | .p x=>x.cell.cellOk=true/\(match h id with
  | .deep m cs rs=>(match rs[r]? with
   |some (some c)=>off<c.length/\K ⟨.p .any,[(id,.deep m cs (rs.set r (some (c.set off x.cell))))],[id]⟩
   |_=>False)
  |_=>False)
 |_=>False
def lR(P:Program)(t:TypeId)(h:Nat->Blk)(a v:AV)(K:R->Prop):Prop:=
 match pU P t with
 |some (n,_)=>(match a with
  | .ptr id off=>match h id with
   | .live m c=>fm h v λxs ws rd=>xs.length=n/\off+n<=c.length/\id∉rd/\
     K ⟨.p .any,ws++[(id,.live m (c.take off++xs++c.drop (off+n)))],id::rd⟩
   | .deep m cs rs=>kO h m id (i7 v) rs λxs rs ws rd=>xs.length=n/\off+n<=cs.length/\
     K ⟨.p .any,ws++[(id,.deep m (cs.take off++xs++cs.drop (off+n)) rs)],id::rd⟩
   |_=>False
  | .iptr id r off=>n=1/\HP h id r off v K
  |_=>False)
 |none=>False
def oU(P:Program)(t:TypeId)(k:Nat)(K:R->Prop):Prop:=
 match ip P t with
 |some xs=>xs≠[]/\xs.length<=1000000/\xs.all PV.cellOk=true/\K ⟨.ptr k 0,[(k,.live false xs)],[]⟩
 |none=>False
def OF(h:Nat->Blk)(k:Nat)(v:AV)(K:R->Prop):Prop:=
 fm h v λxs ws rd=>xs≠[]/\xs.length<=1000000/\K ⟨.ptr k 0,ws++[(k,.live false xs)],rd⟩
def AV.nth(xs:List AV)(i:Nat)(K:AV->Prop):Prop:=match xs[i]? with|some x=>K x|none=>False
def qZ(P:Program)(t:TypeId)(f:Nat)(v:AV)(K:AV->Prop):Prop:=
 match nc P t f with
 |some (off,1,false)=>(match v with
  | .p (.agg xs)=>gt xs off λx=>K (.p x)
  | .agg xs=>AV.nth xs off K
  |_=>False)
 |_=>False
def fk(P:Program)(t:TypeId)(f:Nat)(a:AV)(K:AV->Prop):Prop:=
 match nc P t f with
 |some (off,n,_)=>n≠0/\(match a with
  | .p (.pc xs)=>K (.p (.pc (xs.drop off)))
  | .ptr id o=>K (.ptr id (o+off))
  |_=>False)
 |none=>False
def fJ(P:Program)(t:TypeId):Option (List Nat):=
 match P.underlying t with
 |some (.struct fs)=>fs.toList.mapM λf=>match pU P f.type with|some (1,_)=>some f.offset|_=>none
 |some (.array n e)=>match P.info? e with
  |some i=>if i.size=1 then some (List.range n)else none
  |none=>none
 |_=>none
def AV.one1:AV->Prop
 | .p (.agg _)| .p .any| .agg _| .tup _=>False
 |_=>True
def jJ(places:List Nat)(cells:List AV):List (Nat×AV)->(List AV->Prop)->Prop
 |[],K=>K cells
 |(i,v)::rest,K=>match places[i]? with
  |some o=>o<cells.length/\v.one1/\jJ places (cells.set o v) rest K
  |none=>False
def oS(P:Program)(t:TypeId)(parts:List (Nat×AV))(K:AV->Prop):Prop:=
 match fJ P t,ip P t with
 |some places,some zs=>jJ places (zs.map .p) parts λcs=>K (.agg cs)
 |_,_=>False
def v8(P:Program)(t:TypeId)(x:AV)(K:AV->Prop):Prop:=
 match x with
 | .p (.str s)=>jX P t=true/\K (.p (.int .i64 s.length))
 | .p (.sl _ xs)=>(jK P t).isSome=true/\K (.p (.int .i64 xs.length))
 | .ref _ _ len=>(jK P t).isSome=true/\K (.p (.int .i64 len))
 | .inn _ _ _ len=>(jK P t).isSome=true/\K (.p (.int .i64 len))
 | .prs _ len=>nJ P t=true/\K (.p (.int .i64 len))
 |_=>False
def DC.up(n:Nat):DC->DC
 | .row r=>.row (n+r)
 |x=>x
def DC.noSelf:DC->Bool
 | .self _=>false
 |_=>true
def iZ(h:Nat->Blk)(k:Nat)(s x:AV)(K:R->Prop):Prop:=
 match x with
 | .ref j 0 n=>(match h j with
  | .deep false cs' rs'=>n=cs'.length/\cs'.all DC.noSelf=true/\(match s with
   | .ref id 0 len=>id≠j/\(match h id with
    | .deep m cs rs=>len=cs.length/\cs.all DC.noSelf=true/\len+n<=1099511627776/\
      K ⟨.ref k 0 (len+n),[(j,.dead),(id,.dead),(k,.deep m (cs++cs'.map (DC.up rs.length)) (rs++rs'))],[id,j]⟩
    |_=>False)
   | .p (.sl .own [])=>n<=1099511627776/\K ⟨.ref k 0 n,[(j,.dead),(k,.deep false cs' rs')],[j]⟩
   |_=>False)
  |_=>False)
 |_=>False
def kS(h:Nat->Blk):AV->Bool
 | .ref j _ _=>match h j with
  | .deep .. =>true
  |_=>false
 |_=>false
def uY(P:Program)(t t':TypeId)(h:Nat->Blk)(k:Nat)(s x:AV)(K:R->Prop):Prop:=
 (jK P t).isSome=true/\((jK P t').isSome=true\/jX P t'=true)/\(if kS h x=true then iZ h k s x K else oP h x λys rd=>(match s with
 | .ref id off len=>match h id with
  | .live m c=>len+ys.length<=1099511627776/\off+len<=c.length/\
    (if off+len=c.length then K ⟨.ref k 0 (len+ys.length),[(id,.dead),(k,.live m (c.drop off++ys))],id::rd⟩
    else if off+len+ys.length<=c.length then K ⟨.ref k off (len+ys.length),[(id,.dead),(k,.live m (c.take (off+len)++ys++c.drop (off+len+ys.length)))],id::rd⟩
    else K ⟨.ref k 0 (len+ys.length),[(id,.dead),(k,.live m ((c.drop off).take len++ys))],id::rd⟩)
  |_=>False
 | .p (.sl .own [])=>ys.length<=1099511627776/\K ⟨.ref k 0 ys.length,[(k,.live false ys)],rd⟩
 | .inn id r 0 len=>(match h id with
  | .deep m cs rs=>(match rs[r]? with
   |some (some c)=>len=c.length/\id∉rd/\len+ys.length<=1099511627776/\
     K ⟨.ref k 0 (len+ys.length),[(id,.deep m cs (rs.set r none)),(k,.live m (c++ys))],id::rd⟩
   |_=>False)
  |_=>False)
 |_=>False))
def Jp(max:Bool)(x y:AV)(K:AV->Prop):Prop:=
 match x,y with
 | .p (.int k a),.p (.int k' b)=>k=k'/\K (.p (.int k (if max then(if a<b then b else a)else(if b<a then b else a))))
 |_,_=>False
def pass(h:Nat->Blk):List Bool->List AV->(List Arg->List Nat->List (Option (Nat×Option Nat))->Prop)->Prop
 |_,[],K=>K [] [] []
 |true::sg,v::vs,K=>(match v with
  | .ref id 0 len=>match h id with
   | .live _ c=>len=c.length/\pass h sg vs λas rd ms=>K (.mu false c::as) rd (some (id,none)::ms)
   | .deep _ cs rs=>(∃rows,cs=canon rows.length/\rs=rows.map some/\len=rows.length/\pass h sg vs λas rd ms=>K (.mu false [.dl rows]::as) rd (some (id,none)::ms))\/
     ∃rows:List (List PV),0<rows.length/\cs=canonS rows.length/\rs=List.replicate rows.length none++rows.map some/\len=rows.length/\pass h sg vs λas rd ms=>K (.mu false [.dl rows]::as) rd (some (id,some (rows.length+rows.length))::ms)
   |_=>False
  | .ptr id 0=>match h id with
   | .live _ c=>pass h sg vs λas rd ms=>K (.mu true c::as) rd (some (id,none)::ms)
   |_=>False
  | .inn id r 0 len=>match h id with
   | .deep _ _ rs=>(match rs[r]? with
    |some (some c)=>len=c.length/\pass h sg vs λas rd ms=>K (.mu false c::as) rd (some (id,some r)::ms)
    |_=>False)
   |_=>False
  | .p (.sl .own [])=>pass h sg vs λas rd ms=>K (.pv (.sl .own [])::as) rd (none::ms)
  |_=>False)
 |sg,v::vs,K=>Ej h v λx rd=>pass h sg.tail vs λas rd' ms=>K (.pv x::as) (rd++rd') (none::ms)
def gi:Option Nat->Option (Option (List PV))->Blk->Blk
 |none,some (some [.dl rows]),.deep m _ rs=>if rows.length=rs.length then .deep m (canon rows.length) (rows.map some)else .dead
 |none,some (some [.dl _]),_=>.dead
 |none,some (some c),.live m _=>.live m c
 |some r,some (some [.dl _]),.deep m cs rs=>if r<rs.length then .deep m cs (rs.set r none)else .dead
 |some r,some (some c),.deep m cs rs=>if r<rs.length then(if(rs.getD r none).map List.length=some c.length then .deep m cs (rs.set r (some c))else .deep m cs (rs.set r none))else .dead
 |some r,_,.deep m cs rs=>if r<rs.length then .deep m cs (rs.set r none)else .dead
 |_,_,_=>.dead
def fo(h:Nat->Blk)(outs:List (Option (List PV))):Nat->List (Option (Nat×Option Nat))->List (Nat×Blk)
 |_,[]=>[]
 |j,none::ms=>fo h outs (j+1) ms
 |j,some (id,r)::ms=>(id,gi r outs[j]? (h id))::fo h outs (j+1) ms
def db(ms:List (Option (Nat×Option Nat))):List Nat:=ms.filterMap λm=>m.map (·.1)
def MQ(ms:List (Option (Nat×Option Nat)))(rd:List Nat):Prop:=
 (db ms).Nodup/\∀i∈db ms,i∉rd
def sI:Blk->Bool
 | .live m _=>m
 | .deep m _ _=>m
 | .map m _ _=>m
 |_=>false
def MR(h:Nat->Blk)(ms:List (Option (Nat×Option Nat))):Prop:=∀i∈db ms,sI (h i)=false
def Dr[Amb](P:Program)(sg:FuncId->List Bool)(h:Nat->Blk)(k:Nat)(f:FuncId)(vs:List AV)(K:R->Prop):Prop:=
 pass h (sg f) vs λas rd ms=>MQ ms rd/\∃tk outs res,CallT P tk f as outs res/\∃t,(t=false->tk=true->MR h ms)/\
  K ⟨impAll k res,fo h outs 0 ms++impWs t k res,db ms++rd⟩
def nT:List Bool->List AV->List Nat
 |true::fs,.ref id _ _::vs=>id::nT fs vs
 |_::fs,_::vs=>nT fs vs
 |_,_=>[]
def IF(b:Blk)(id:Nat)(ws:List (Nat×Blk)):List (Nat×Blk):=
 match b with
 | .live m c=>(id,.froz m c)::ws
 |_=>ws
def mG(h:Nat->Blk):List Nat->List (Nat×Blk)
 |[]=>[]
 |id::l=>IF (h id) id (mG h l)
def OD[Amb](P:Program)(sg:FuncId->List Bool)(h:Nat->Blk)(k:Nat)(f:FuncId)(vs:List AV)(K:R->Prop):Prop:=
 Dr P sg (hwsH h (mG h (nT (sg (f+8589934592)) vs))) k f vs λr=>K ⟨r.v,mG h (nT (sg (f+8589934592)) vs)++r.ws,nT (sg (f+8589934592)) vs++r.rd⟩
def OZ(P:Program)(f:FuncId)(g:List Int->List Int):Prop:=
 (∃fn,P.funcs[f]? =some fn/\fn.body.isSome=true/\(fn.name== "runtime.NumGoroutine")=false)/\(∀l,(g l).length=l.length)/\
 (∀(w:World) (a:Option Addr) (cap:Nat),Calls P f #[.slice a 0 cap] w λe w'=>e=.returned (.tuple #[])/\∃d,w.drawn<=d/\w'={w with drawn:=d})/\
 ∀(w:World) (B off cap:Nat) (l:List Int) (cs:Array Value) (E:TypeId) (lo hi:Nat),w.heap[B]? =some (.cells cs E (lo,hi))->off+l.length<=cs.size->(hi<=lo\/cs.size<=lo)->l.length<=maxLen->(∀j x,l[j]? =some x->cs[off+j]? =some (.int .i64 x))->
  Calls P f #[.slice (some ⟨B,off,none⟩) l.length cap] w λe w'=>e=.returned (.tuple #[])/\∃d,w.drawn<=d/\w'={w.setRow B (cs.toList.take off++(g l).map (Value.int .i64)++cs.toList.drop (off+l.length)).toArray with drawn:=d}
def ZO(P:Program)(f g:FuncId)(srt:List (List Int)->List (List Int)):Prop:=
 (∃fn,P.funcs[f]? =some fn/\fn.body.isSome=true/\(fn.name== "runtime.NumGoroutine")=false)/\
 ∀(w:World) (B off cap:Nat) (L:List (List Int)) (hd:Nat->Value) (cs:Array Value) (E:TypeId) (lo hi:Nat),w.heap[B]? =some (.cells cs E (lo,hi))->off+L.length<=cs.size->(hi<=lo\/cs.size<=lo)->0<L.length->L.length<=1048576->(∀l∈L,l.length<=1048576)->
  (∀j,j<L.length->cs[off+j]? =some (hd j)/\(hd j).oneCell'=true/\RepP w (λB'=>B'=B) (λ_=>True) (.sl .ro ((L.getD j []).map (PV.int .i64))) (hd j))->
  Calls P f #[.slice (some ⟨B,off,none⟩) L.length cap,.func (.func g) #[] #[]] w λe w'=>e=.returned (.tuple #[])/\∃s:List Nat,s.Perm (List.range L.length)/\srt L=s.map (λi=>L.getD i [])/\w'.os=w.os/\w'.tape=w.tape/\w'.output=w.output/\
   w.heap.size<=w'.heap.size/\w.drawn<=w'.drawn/\(∀k,k<w.heap.size->k≠B->w'.heap[k]? =w.heap[k]?)/\∃cs',w'.heap[B]? =some (.cells cs' E (lo,hi))/\cs'.size=cs.size/\∀j,j<L.length->cs'[off+j]? =some (hd (s.getD j 0))
def oC(P:Program)(h:Nat->Blk)(f:FuncId)(vs:List AV)(K:R->Prop):Prop:=
 match vs with
 |[.ref id off len]=>match h id with
  | .live m c=>off+len<=c.length/\∃g,OZ P f g/\∃l:List Int,(c.drop off).take len=l.map (PV.int .i64)/\K ⟨.p .any,[(id,.live m (c.take off++(g l).map (PV.int .i64)++c.drop (off+len)))],[id]⟩
  |_=>False
 |[.ref id 0 len,.p (.fn g [] [])]=>match h id with
  | .deep m cs rs=>∃L:List (List Int),0<L.length/\L.length<=1048576/\(∀l∈L,l.length<=1048576)/\cs=canon L.length/\rs=(L.map λl=>some (l.map (PV.int .i64)))/\len=L.length/\
    ∃srt,ZO P f g srt/\K ⟨.p .any,[(id,.deep m (canonS L.length) (List.replicate L.length none++(srt L).map λl=>some (l.map (PV.int .i64))))],[id]⟩
  |_=>False
 |_=>False
def qk[Amb](P:Program)(sg:FuncId->List Bool)(h:Nat->Blk)(k:Nat)(f:FuncId)(vs:List AV)(K:R->Prop):Prop:=
 if(sg (f+12884901888)).isEmpty=true then OD P sg h k f vs K else oC P h f vs K
def OB(P:Program)(t:TypeId)(x:AV)(K:AV->Prop):Prop:=
 match x with
 | .p (.sl .own [])=>(jK P t).isSome=true/\K (.p (.int .i64 0))
 |_=>False
def li(P:Program)(t:TypeId)(h:Nat->Blk)(x:AV)(K:R->Prop):Prop:=
 match x with
 | .ref id off len=>match jK P t,h id with
  |some (_,z),.live m c=>off+len<=c.length/\z.cellOk=true/\K ⟨.p .any,[(id,.live m (c.take off++List.replicate len z++c.drop (off+len)))],[id]⟩
  |some (_,z),.deep m cs rs=>z=.sl .fr []/\off+len<=cs.length/\K ⟨.p .any,[(id,.deep m (cs.take off++List.replicate len (.v (.sl .own []))++cs.drop (off+len)) rs)],[id]⟩
  |_,_=>False
 |_=>False
def ZY:PV->PV
 | .sl .own []=>.nl
 |x=>x
def Mz(P:Program)(t:TypeId):Option (TypeId×PV):=
 match P.underlying t with
 |some (.map k e)=>match P.info? e with
  |some i=>match i.zero with
   |some z=>some (k,ZY (gV z))
   |none=>none
  |none=>none
 |_=>none
def Iq(P:Program)(k:TypeId):Value->Prop:=λv=>∃l,keyOf P k v=some l
def Cj:PV->Bool
 | .int _ _| .bool _| .str _=>true
 |_=>false
def Ae:PV->Bool
 | .agg xs=>xs.all Cj
 |x=>Cj x
def Jj:List AV->Option (List PV)
 |[]=>some []
 | .p x::xs=>(Jj xs).map (x::·)
 |_=>none
def asK:AV->Option PV
 | .p x=>some x
 | .agg xs=>(Jj xs).map .agg
 |_=>none
def lkV(z:PV)(c:Bool):Option PV->AV
 |some x=>if c then .tup [.p x,.p (.bool true)]else .p x
 |none=>if c then .tup [.p z,.p (.bool false)]else .p z
def Cd(P:Program)(t:TypeId)(r:Option Operand)(k:Nat)(K:R->Prop):Prop:=
 r=none/\match Mz P t with
 |some (kt,_)=>K ⟨.mp k,[(k,.map false (Iq P kt) [])],[]⟩
 |none=>False
def pk(P:Program)(t:TypeId)(h:Nat->Blk)(m k:AV)(c:Bool)(K:R->Prop):Prop:=
 match Mz P t,m,asK k with
 |some (kt,z),.mp id,some q=>(match h id with
  | .map _ kt' es=>kt'=Iq P kt/\Maps.Keyed P kt/\Ae q=true/\Iq P kt (kV q)/\K ⟨lkV z c (mget es q),[],[id]⟩
  |_=>False)
 |_,_,_=>False
def mO(P:Program)(t:TypeId)(h:Nat->Blk)(m k v:AV)(K:R->Prop):Prop:=
 match Mz P t,m,asK k with
 |some (kt,_),.mp id,some q=>(match h id with
  | .map b kt' es=>kt'=Iq P kt/\Maps.Keyed P kt/\Ae q=true/\Iq P kt (kV q)/\Ek h v λx ws rd=>id∉rd/\K ⟨.p .any,ws++[(id,.map b kt' ((q,x)::es))],id::rd⟩
  |_=>False)
 |_,_,_=>False
def lH[Amb](P:Program)(sg:FuncId->List Bool)(ρ:Operand->AV)(h:Nat->Blk)(k:Nat)(op:Op)(K:R->Prop):Prop:=
 match op with
 | .move x=>qm k (ρ x) K
 | .assign x=>qm k (ρ x) K
 | .pick c a b=>my (ρ c) (ρ a) (ρ b) λv=>qm k v K
 | .binOp op t x y _=>jr P op t (ρ x) (ρ y) λv=>K ⟨.p v,[],[]⟩
 | .unOp op _ x=>T4 op (ρ x) λv=>K ⟨.p v,[],[]⟩
 | .convert src dst x=>mN P src dst k h (ρ x) K
 | .makeSlice t l c=>tO P t k (ρ l) (ρ c) K
 | .buildSlice t n parts=>bP P t n parts k ρ h K
 | .slice t x lo hi mx=>eC P t (ρ x) lo hi mx k ρ K
 | .indexAddr t x i=>bZ P t (ρ x) (ρ i) λv=>K ⟨v,[],[]⟩
 | .index t x i=>oD P t (ρ x) (ρ i) λv=>K ⟨v,[],[]⟩
 | .load t a=>gq P t h (ρ a) K
 | .store t a v=>lR P t h (ρ a) (ρ v) K
 | .alloc t=>oU P t k K
 | .box _ v=>OF h k (ρ v) K
 | .build t parts=>oS P t (parts.toList.map λp=>(p.1,ρ p.2)) λv=>K ⟨v,[],[]⟩
 | .field t v f=>qZ P t f (ρ v) λv=>qm k v K
 | .fieldAddr t a f=>fk P t f (ρ a) λv=>K ⟨v,[],[]⟩
 | .extract t i=>(match ρ t with| .tup xs=>AV.nth xs i λv=>qm k v K|_=>False)
 | .nilCheck x=>(match ρ x with| .ptr id off=>K ⟨.ptr id off,[],[]⟩| .p (.pc xs)=>K ⟨.p (.pc xs),[],[]⟩| .p (.fn f a b)=>K ⟨.p (.fn f a b),[],[]⟩| .fn f a b=>K ⟨.fn f a b,[],[]⟩|_=>False)
 | .makeMap t r=>Cd P t r k K
 | .lookup t m x c=>pk P t h (ρ m) (ρ x) c K
 | .mapUpdate t m x v=>mO P t h (ρ m) (ρ x) (ρ v) K
 | .insert t m x v=>mO P t h (ρ m) (ρ x) (ρ v) K
 | .makeFunc (.func f) first caps=>K ⟨.fn f (first.toList.map ρ) (caps.toList.map ρ),[],[]⟩
 | .call {callee:=.builtin .len,args:=⟨[x]⟩,argTypes:=⟨[t]⟩}=>v8 P t (ρ x) λv=>K ⟨v,[],[]⟩
 | .call {callee:=.builtin .append,args:=⟨[s,x]⟩,argTypes:=⟨[t,t']⟩}=>uY P t t' h k (ρ s) (ρ x) K
 | .call {callee:=.builtin .max,args:=⟨[x,y]⟩, .. }=>Jp true (ρ x) (ρ y) λv=>K ⟨v,[],[]⟩
 | .call {callee:=.builtin .min,args:=⟨[x,y]⟩, .. }=>Jp false (ρ x) (ρ y) λv=>K ⟨v,[],[]⟩
 | .call {callee:=.builtin .cap,args:=⟨[x]⟩,argTypes:=⟨[t]⟩}=>OB P t (ρ x) λv=>K ⟨v,[],[]⟩
 | .call {callee:=.builtin .clear,args:=⟨[x]⟩,argTypes:=⟨[t]⟩}=>li P t h (ρ x) K
 | .call {callee:=.value f,args:=⟨args⟩, .. }=>(match ρ f with
  | .p (.fn g first caps)=>qk P sg h k g (first.map .p++args.map ρ++caps.map .p) K
  | .fn g first caps=>qk P sg h k g (first++args.map ρ++caps) K
  |_=>False)
 |_=>False
def TO(k:IntKind)(x y:Int):Int:=k.wrap (BitVec.ofInt k.bits x&&& BitVec.ofInt k.bits y).toNat
def Pw(k:IntKind)(x y:Int):Int:=k.wrap (BitVec.ofInt k.bits x^^^BitVec.ofInt k.bits y).toNat
def xI(op:BinOp)(x y:AV)(K:PV->Prop):Prop:=
 match x,y with
 | .p (.int k a),.p (.int k' b)=>
  match op with
  | .add=>k=k'/\K (.int k (k.wrap (a+b)))
  | .sub=>k=k'/\K (.int k (k.wrap (a-b)))
  | .mul=>k=k'/\K (.int k (k.wrap (a*b)))
  | .and=>k=k'/\K (.int k (TO k a b))
  | .xor=>k=k'/\K (.int k (Pw k a b))
  |_=>False
 |_,_=>False
def kJ(P:Program)(t:TypeId)(x:AV)(lo hi mx:Option Operand)(h:Nat->Blk)(ρ:Operand->AV)(K:R->Prop):Prop:=
 match x with
 | .ref id off len=>match h id with
  | .live _ c=>(jK P t).isSome=true/\off+len<=c.length/\(match mx with
   |none=>ll ρ hi len λh=>ll ρ lo 0 λl=>0<=l/\l<=h/\off+h.toNat<=c.length/\K ⟨.ref id (off+l.toNat) (h.toNat-l.toNat),[],[id]⟩
   |some _=>hi≠none/\ll ρ mx 0 λm=>ll ρ hi 0 λh=>ll ρ lo 0 λl=>0<=l/\l<=h/\h<=m/\m<=len/\K ⟨.p .any,[],[id]⟩)
  |_=>False
 |_=>False
def vV(P:Program)(t:TypeId):Bool:=
 match jK P t with
 |some (_,.sl .fr [])=>true
 |_=>false
def oT(P:Program)(t:TypeId)(n:Nat)(parts:Array (Nat×Operand))(k:Nat)(ρ:Operand->AV)(h:Nat->Blk)(K:R->Prop):Prop:=
 (jK P t).isSome=true/\gU n parts=true/\n<=1000000/\kO h false k (parts.toList.map λp=>ρ p.2) [] λxs rs ws rd=>xs.all DC.noSelf=true/\
  K ⟨.ref k 0 n,ws++[(k,.deep false xs rs)],rd⟩
def Ce(P:Program)(t:TypeId)(k:Nat)(l c:AV)(K:R->Prop):Prop:=
 match l,c with
 | .p (.int _ a),.p (.int _ b)=>0<=a/\a<=b/\b<=1099511627776/\vV P t=true/\K ⟨.ref k 0 a.toNat,[(k,.deep false (List.replicate a.toNat (.v (.sl .own []))) [])],[]⟩
 |_,_=>False
def oB:PV->Bool
 | .sl .fr []=>true
 |_=>false
def ri(P:Program)(t:TypeId)(k:Nat)(K:R->Prop):Prop:=
 match ip P t with
 |some xs=>xs≠[]/\xs.length<=1000000/\xs.all oB=true/\K ⟨.ptr k 0,[(k,.deep false (xs.map λ_=>.v (.sl .own [])) [])],[]⟩
 |none=>False
def adF(h:Nat->Blk)(k:Nat)(v:AV)(K:R->Prop):Prop:=
 kO h false k (i7 v) [] λxs rs ws rd=>xs≠[]/\xs.all DC.noSelf=true/\xs.length<=1000000/\K ⟨.ptr k 0,ws++[(k,.deep false xs rs)],rd⟩
def Us(P:Program)(t:TypeId):Option (List Nat×Nat):=
 match fJ P t,ip P t with
 |some places,some zs=>if zs.all oB=true then some (places,zs.length)else none
 |_,_=>none
def nK(k n:Nat):List (Nat×Blk):=(List.range n).map λi=>(k+i,.live false [])
def rg(P:Program)(t:TypeId)(parts:List (Nat×AV))(k:Nat)(K:R->Prop):Prop:=
 match Us P t with
 |some (places,n)=>n<=64/\jJ places ((List.range n).map λi=>.ref (k+i) 0 0) parts λcs=>K ⟨.agg cs,nK k n,[]⟩
 |none=>False
def Ur(v:AV)(K:R->Prop):Prop:=
 match v with
 | .p (.sl .own _)=>K ⟨.p .nl,[],[]⟩
 |_=>False
def Rb(P:Program)(ρ:Operand->AV)(h:Nat->Blk)(op:Op)(K:R->Prop):Prop:=
 match op with
 | .binOp op _ x y _=>xI op (ρ x) (ρ y) λv=>K ⟨.p v,[],[]⟩
 | .slice t x lo hi mx=>kJ P t (ρ x) lo hi mx h ρ K
 | .call {callee:=.builtin .clear,args:=⟨[x]⟩,argTypes:=⟨[t]⟩}=>li P t h (ρ x) K
 | .move x=>Ur (ρ x) K
 | .assign x=>Ur (ρ x) K
 |_=>False
def wV(k:Nat)(v:AV)(K:R->Prop):Prop:=
 match v with
 | .p (.sl .own xs)=>xs=[]/\K ⟨.ref k 0 0,[(k,.deep false [] [])],[]⟩
 |_=>False
def BJ(P:Program)(ρ:Operand->AV)(h:Nat->Blk)(k:Nat)(op:Op)(K:R->Prop):Prop:=
 match op with
 | .buildSlice t n parts=>oT P t n parts k ρ h K
 | .makeSlice t l c=>Ce P t k (ρ l) (ρ c) K
 | .alloc t=>ri P t k K
 | .box _ v=>adF h k (ρ v) K
 | .build t parts=>rg P t (parts.toList.map λp=>(p.1,ρ p.2)) k K
 | .move x=>wV k (ρ x) K
 | .assign x=>wV k (ρ x) K
 |_=>False
def TR(P:Program)(t:TypeId):Bool:=match pU P t with|some (_,true)=>true|_=>false
def It:Operand->Bool
 | .const (.slice none 0 0)=>true
 |_=>false
def sG(P:Program)(n s z:Bool):Op->Bool
 | .move x=>z&&It x
 | .assign x=>z&&It x
 | .buildSlice t _ _=>n&&vV P t
 | .makeSlice t _ _=>n&&vV P t
 | .alloc t=>s&&TR P t
 | .box t _=>s&&TR P t
 | .build t parts=>s&&decide (parts.size<((fJ P t).getD []).length)
 |_=>false
def gu(sg:FuncId->List Bool):Bool:=(sg 4294967297).getD 0 false
def gs(sg:FuncId->List Bool):Bool:=(sg 4294967297).getD 1 false
def gr(sg:FuncId->List Bool):Bool:=(sg 4294967297).getD 2 false
def Pi:Op->Bool
 | .binOp .add .. | .binOp .sub .. | .binOp .mul .. | .binOp .and .. | .binOp .xor .. | .slice .. =>true
 | .call {callee:=.builtin .clear,args:=⟨[_]⟩,argTypes:=⟨[_]⟩}=>true
 | .move x=>It x
 | .assign x=>It x
 |_=>false
def Mp(P:Program)(t:TypeId):Bool:=
 match P.underlying t with
 |some (.slice e)=>vV P e
 |_=>false
def isM(P:Program):Op->Bool
 | .buildSlice t _ _=>Mp P t
 | .makeSlice t _ _=>Mp P t
 |_=>false
def gB(sg:FuncId->List Bool):Bool:=(sg 4294967297).getD 3 false
def ga(sg:FuncId->List Bool):Bool:= !(sg 4294967296).isEmpty
def pg[Amb](P:Program)(sg:FuncId->List Bool)(ρ:Operand->AV)(h:Nat->Blk)(k:Nat)(op:Op)(K:R->Prop):Prop:=
 if(ga sg&&Pi op)=true then Rb P ρ h op K else if(sG P (gu sg) (gs sg) (gr sg) op||(gB sg&&isM P op))=true then BJ P ρ h k op K else lH P sg ρ h k op K
def St.app(S:St)(d:Option Nat)(r:R):St:=(S.puto d r.v).hws r.ws
def Js(v:AV)(want:Bool)(yes no:Prop):Prop:=
 match v with
 | .p (.bool b)=>(b=want->yes)/\(b≠want->no)
 | .tup []=>no
 |_=>False
def fC(ops:Array Oper)(S:St)(o:Oper)(yes no:Prop):Prop:=
 match o.guard with
 |none=>yes
 |some (j,want)=>match (ops[j]?).bind (·.dst)with
  |some d=>Js (S.e d) want yes no
  |none=>False
def tc(S0 i:Nat):Nat:=S0+256*i
def rR[Amb](P:Program)(sg:FuncId->List Bool)(ops:Array Oper)(n0:Nat):List Oper->Nat->St->(St->Prop)->Prop
 |[],_,S,K=>K S
 |o::os,i,S,K=>fC ops S o (pg P sg (BH S) S.h (tc n0 i) o.op λr=>rR P sg ops n0 os (i+1) (S.app o.dst r) K) (rR P sg ops n0 os (i+1) (S.puto o.dst (.tup [])) K)
def ag1(ops:Array Oper)(o:Oper):List Nat:=o.looksAt ops
def mc(ops:Array Oper):Nat->Nat->Nat->Bool
 |0,_,_=>false
 |n+1,i,j=>match ops[j]? with
  |some o=>o.after.any λe=>Region.binds .any e&&e.on<j&&(e.on==i||mc ops n i e.on)
  |none=>false
def clear(a b:List (Nat×Blk)×List Nat):Prop:=
 ∀p∈a.1,p.1∉b.2/\∀q∈b.1,p.1≠q.1
def qF[Amb](P:Program)(sg:FuncId->List Bool)(ops:Array Oper)(n0:Nat):List Oper->Nat->St->List (List (Nat×Blk)×List Nat)->(St->List (List (Nat×Blk)×List Nat)->Prop)->Prop
 |[],_,S,L,K=>K S L
 |o::os,i,S,L,K=>fC ops S o (pg P sg (BH S) S.h (tc n0 i) o.op λr=>qF P sg ops n0 os (i+1) (S.app o.dst r) (L++[(r.ws,r.rd)]) K) (qF P sg ops n0 os (i+1) (S.puto o.dst (.tup [])) (L++[([],[])]) K)
def wZ(ops:Array Oper):Bool:=
 (List.range ops.size).all λj=>(List.range j).all λi=>mc ops ops.size i j||(match ops[i]?,ops[j]? with|some x,some y=>x.apart ops y|_,_=>false)
def lj(ops:Array Oper)(L:List (List (Nat×Blk)×List Nat)):Prop:=
 ∀j,j<ops.size->∀i,i<j->mc ops ops.size i j=true\/(clear (L.getD i ([],[])) (L.getD j ([],[]))/\clear (L.getD j ([],[])) (L.getD i ([],[])))
def rI(nt:Nat)(ops:Array Oper):Bool:=
 ops.toList.zipIdx.all λ(o,i)=>(match o.dst with|some d=>decide (d<nt)|none=>true)&&o.after.all (λe=> !Region.binds .any e||decide (e.on<i))
inductive Ex where
 |normal
 |exit (id:Nat)
 |ret
def wp[Amb](P:Program)(sg:FuncId->List Bool)(nt:Nat):Code->(Ex->St->Prop)->St->Prop
 | .skip,Q,S=>Q .normal S
 | .region _ ops false,Q,S=>rI nt ops=true/\rR P sg ops S.n ops.toList 0 S λS'=>Q .normal (S'.nx (256*ops.size))
 | .region _ ops true,Q,S=>rI nt ops=true/\wZ ops=true/\qF P sg ops S.n ops.toList 0 S [] λS' L=>lj ops L/\Q .normal (S'.nx (256*ops.size))
 | .seq a b,Q,S=>wp P sg nt a (λex S'=>match ex with| .normal=>wp P sg nt b Q S'|ex=>Q ex S') S
 | .cond c a b,Q,S=>match BH S c with
  | .p (.bool t)=>(t=true->wp P sg nt a Q S)/\(t=false->wp P sg nt b Q S)
  |_=>False
 | .block id c,Q,S=>wp P sg nt c (λex S'=>match ex with| .exit j=>if j=id then Q .normal S' else Q (.exit j) S'|ex=>Q ex S') S
 | .loop c,Q,S=>∃I:Nat->St->Prop,(∃n,I n S)/\∀n S,I n S->wp P sg nt c (λex S'=>match ex with| .normal=>∃m,m<n/\I m S'|ex=>Q ex S') S
 | .exit id,Q,S=>Q (.exit id) S
 | .ret,Q,S=>Q .ret S
 |_,_,_=>False
def Stays(w w':World)(F F':Nat->Prop):Prop:=
 ∀B o v,¬F B->w.cell? ⟨B,o,none⟩=some v->w'.cell? ⟨B,o,none⟩=some v/\¬F' B
theorem AM{B o:Nat}{x:PV}{xs:List PV}(h:RepC w F G B o (x::xs)):∃v,w.cell? ⟨B,o,none⟩=some v:=by
 grind [RepC]
mutual
theorem RepP.tr{w w':World}{F F' G G':Nat->Prop}(H:Stays w w' F F')(HG:∀B,(∃o v,w.cell? ⟨B,o,none⟩=some v)->¬F B->G B->G' B):∀(x:PV) (v:Value),RepP w F G x v->RepP w' F' G' x v
 | .int _ _,_,h=>h
 | .bool _,_,h=>h
 | .str _,_,h=>h
 | .nilf,_,h=>h
 | .nl,_,h=>h
 | .any,_,_=>trivial
 | .dl _,_,h=>by simp only[RepP]at h
 | .bx _,_,h=>by simp only[RepP]at h
 | .sl o xs,v,h=>by
  simp only[RepP]at h |-
  obtain⟨a,cap,hv,hl,hm,ho,hx⟩:=h;refine⟨a,cap,hv,hl,hm,ho, ?_⟩;rcases hx with hx|⟨B,off,ha,hF,hG,hc⟩
  .exact .inl hx
  .cases xs with
   |nil=>exact .inl rfl
   |cons y ys=>
    obtain⟨u,hu⟩:=AM hc;exact .inr ⟨B,off,ha,(H B off u hF hu).2,λe=>HG B ⟨off,u,hu⟩ hF (hG e),RepC.tr H HG (y::ys) B off (λo v hv=>(H B o v hF hv).1) hc⟩
 | .agg xs,v,h=>by
  simp only[RepP]at h |-
  obtain⟨cs,hv,hx⟩:=h;exact⟨cs,hv,RepL.tr H HG xs cs hx⟩
 | .fn f a b,v,h=>by
  simp only[RepP]at h |-
  obtain⟨a',b',hv,ha,hb⟩:=h;exact⟨a',b',hv,RepL.tr H HG a a' ha,RepL.tr H HG b b' hb⟩
 | .pc xs,v,h=>by
  simp only[RepP]at h |-
  obtain⟨B,off,hv,hF,hc⟩:=h;cases xs with
  |nil=>grind [RepC]
  |cons y ys=>
   have hF':¬F B:=by grind
   obtain⟨u,hu⟩:=AM hc;exact⟨B,off,hv,.inr (H B off u hF' hu).2,RepC.tr H HG (y::ys) B off (λo v hv=>(H B o v hF' hv).1) hc⟩
theorem RepC.tr{w w':World}{F F' G G':Nat->Prop}(H:Stays w w' F F')(HG:∀B,(∃o v,w.cell? ⟨B,o,none⟩=some v)->¬F B->G B->G' B):∀(xs:List PV) (B o:Nat),
  (∀o v,w.cell? ⟨B,o,none⟩=some v->w'.cell? ⟨B,o,none⟩=some v)->RepC w F G B o xs->RepC w' F' G' B o xs
 |[],_,_,_,_=>by simp only[RepC]
 |x::xs,B,o,hB,h=>by
  simp only[RepC]at h |-
  obtain⟨⟨v,hv,h1,hx⟩,hr⟩:=h;exact⟨⟨v,hB _ _ hv,h1,RepP.tr H HG x v hx⟩,RepC.tr H HG xs B (o+1) hB hr⟩
theorem RepL.tr{w w':World}{F F' G G':Nat->Prop}(H:Stays w w' F F')(HG:∀B,(∃o v,w.cell? ⟨B,o,none⟩=some v)->¬F B->G B->G' B):∀(xs:List PV) (vs:List Value),
  RepL w F G xs vs->RepL w' F' G' xs vs
 |[],_,h=>by grind [RepL]
 |x::xs,vs,h=>by
  simp only[RepL]at h |-
  obtain⟨v,vs',rfl,hx,hr⟩:=h;exact⟨v,vs',rfl,RepP.tr H HG x v hx,RepL.tr H HG xs vs' hr⟩
end
mutual
theorem RepA.tr{w w':World}{F F' G G':Nat->Prop}{ι ι':Nat->Loc}(H:Stays w w' F F')(HG:∀B,(∃o v,w.cell? ⟨B,o,none⟩=some v)->¬F B->G B->G' B):
  ∀(x:AV) (v:Value),(∀i,x.has i=true->LocEq (ι i) (ι' i))->RepA w F G ι x v->RepA w' F' G' ι' x v
 | .p x,v,_,h=>RepP.tr H HG x v h
 | .ref id off len,v,hi,h=>by
  obtain⟨e1,e2,e3,_⟩:=hi id (by simp[AV.has]);grind [RepA]
 | .ptr id off,v,hi,h=>by
  obtain⟨e1,e2,_⟩:=hi id (by simp[AV.has]);grind [RepA]
 | .inn id r off len,v,hi,h=>by
  have e:=hi id (by simp[AV.has]);simp only[RepA]at h |-
  rw[e.sub h.1];exact⟨Nat.lt_of_lt_of_le h.1 e.2.2.2.1,h.2⟩
 | .iptr id r off,v,hi,h=>by
  have e:=hi id (by simp[AV.has]);simp only[RepA]at h |-
  rw[e.sub h.1];exact⟨Nat.lt_of_lt_of_le h.1 e.2.2.2.1,h.2⟩
 | .mp id,v,hi,h=>by
  obtain⟨e1,_⟩:=hi id (by simp[AV.has]);grind [RepA]
 | .prs id len,v,hi,h=>by
  obtain⟨e1,e2,_⟩:=hi id (by simp[AV.has]);grind [RepA]
 | .agg xs,v,hi,h=>by
  simp only[RepA]at h |-
  obtain⟨cs,hv,hx⟩:=h;exact⟨cs,hv,RepAL.tr H HG xs cs (λi h=>hi i (by simpa[AV.has]using h)) hx⟩
 | .tup xs,v,hi,h=>by
  simp only[RepA]at h |-
  obtain⟨cs,hv,hx⟩:=h;exact⟨cs,hv,RepAL.tr H HG xs cs (λi h=>hi i (by simpa[AV.has]using h)) hx⟩
 | .fn f a b,v,hi,h=>by
  simp only[RepA]at h |-
  obtain⟨a',b',hv,ha,hb⟩:=h;exact⟨a',b',hv,RepAL.tr H HG a a' (λi h=>hi i (by simp[AV.has,h])) ha,RepAL.tr H HG b b' (λi h=>hi i (by simp[AV.has,h])) hb⟩
theorem RepAL.tr{w w':World}{F F' G G':Nat->Prop}{ι ι':Nat->Loc}(H:Stays w w' F F')(HG:∀B,(∃o v,w.cell? ⟨B,o,none⟩=some v)->¬F B->G B->G' B):
  ∀(xs:List AV) (vs:List Value),(∀i,AV.hasL xs i=true->LocEq (ι i) (ι' i))->RepAL w F G ι xs vs->RepAL w' F' G' ι' xs vs
 |[],_,_,h=>by grind [RepAL]
 |x::xs,vs,hi,h=>by
  simp only[RepAL]at h |-
  obtain⟨v,vs',rfl,hx,hr⟩:=h;exact⟨v,vs',rfl,RepA.tr H HG x v (λi h=>hi i (by simp[AV.hasL,h])) hx,RepAL.tr H HG xs vs' (λi h=>hi i (by simp[AV.hasL,h])) hr⟩
end
theorem RowAt.same{l:Loc}(h:RowAt w l)(he:w'.heap[l.B]? =w.heap[l.B]?):RowAt w' l:=by
 obtain⟨cs,E,lo,hi,hh,r⟩:=h;exact⟨cs,E,lo,hi,by rw[he];exact hh,r⟩
theorem RowAt.lt{l:Loc}(h:RowAt w l):l.B<w.heap.size:=by
 obtain⟨cs,E,lo,hi,hh,_⟩:=h;grind
theorem cell?_eq0(w:World)(B o:Nat):w.cell? ⟨B,o,none⟩=match w.heap[B]? with|some (.cells c _ _)=>c[o]? |_=>none:=rfl
theorem cell?_same{B o:Nat}(he:w'.heap[B]? =w.heap[B]?):w'.cell? ⟨B,o,none⟩=w.cell? ⟨B,o,none⟩:=by
 grind [cell?_eq0]
theorem rowOk.tr{O':Nat->Prop}(H:Stays w w' F F')(HG:∀B,(∃o v,w.cell? ⟨B,o,none⟩=some v)->¬F B->G B->G' B){l:Loc}{c:List PV}
  (he:l.cap≠0->w'.heap[l.B]? =w.heap[l.B]?) (hO:l.cap≠0->O l.B->O' l.B) (h:rowOk w F G O l c):rowOk w' F' G' O' l c:=by
 obtain⟨h1,h2,h3⟩:=h;refine⟨h1,h2, ?_⟩;by_cases h0:l.cap=0
 .exact .inl h0
 .rcases h3 with h3|⟨hr,hc,ho⟩
  .exact absurd h3 h0
  .exact .inr ⟨hr.same (he h0),RepC.tr H HG _ _ _ (λo v hv=>by grind [cell?_same]) hc,hO h0 ho⟩
theorem dcRep.tr(H:Stays w w' F F')(HG:∀B,(∃o v,w.cell? ⟨B,o,none⟩=some v)->¬F B->G B->G' B){l:Loc}{rs:List (Option (List PV))}{x:DC}{v:Value}
  (h:dcRep w F G l rs x v):dcRep w' F' G' l rs x v:=by
 cases x with
 |v x=>exact RepP.tr H HG x v h
 |row r=>exact h
 |self o=>exact h
theorem okB.tr{O O':Bool->Nat->Prop}(H:Stays w w' F F')(HG:∀B,(∃o v,w.cell? ⟨B,o,none⟩=some v)->¬F B->G B->G' B){b:Blk}{l:Loc}
  (he:∀B,owns b l B->w'.heap[B]? =w.heap[B]?) (hO:∀m B,owns b l B->O m B->O' m B) (h:okB w F G O b l):okB w' F' G' O' b l:=by
 cases b with
 |live m c=>exact rowOk.tr H HG (λh0=>he _ ⟨h0,rfl⟩) (λh0=>hO _ _ ⟨h0,rfl⟩) h
 |froz m c=>
  obtain⟨h1,h2,h3⟩:=h;refine⟨h1,h2, ?_⟩;rcases h3 with h3|⟨hF,hg,hc⟩
  .exact .inl h3
  .cases c with
   |nil=>exact .inl rfl
   |cons y ys=>
    obtain⟨u,hu⟩:=AM hc;exact .inr ⟨(H _ _ u hF hu).2,λe=>HG _ ⟨_,_,hu⟩ hF (hg e),RepC.tr H HG _ _ _ (λo v hv=>(H _ o v hF hv).1) hc⟩
 |deep m cs rs=>
  obtain⟨hn,⟨h1,h2,h3⟩,h4,h5,h6⟩:=h;refine⟨hn,⟨h1,h2, ?_⟩,λr c hr=>rowOk.tr H HG (λh0=>he _ (.inr ⟨r,c,hr,h0,rfl⟩)) (λh0=>hO _ _ (.inr ⟨r,c,hr,h0,rfl⟩)) (h4 r c hr),h5,h6⟩;by_cases h0:l.cap=0
  .exact .inl h0
  .rcases h3 with h3|⟨hr,ho,hc⟩
   .exact absurd h3 h0
   .have e:=he _ (.inl ⟨h0,rfl⟩)
    refine .inr ⟨hr.same e,hO _ _ (.inl ⟨h0,rfl⟩) ho,λj x hj=> ?_⟩;obtain⟨v,hv,h1,hx⟩:=hc j x hj;exact⟨v,by grind [cell?_same],h1,hx.tr H HG⟩
 |map m kt es=>
  obtain⟨h0,h1,A,cl,h2,h3⟩:=h;exact⟨h0,hO _ _ ⟨h0,rfl⟩ h1,A,cl,by rw[he _ ⟨h0,rfl⟩];exact h2,h3.keys,h3.apart,h3.no,λq x hq=>by
   obtain⟨e,he,hk,hr⟩:=h3.yes q x hq;grind [RepP.tr]⟩
 |dead=>trivial
theorem okB.lt{O:Bool->Nat->Prop}{b:Blk}{l:Loc}(h:okB w F G O b l){B:Nat}(ho:owns b l B):B<w.heap.size:=by
 cases b with
 |live m c=>
  obtain⟨_,_,h3⟩:=h;obtain⟨h0,rfl⟩:=ho;rcases h3 with h3|⟨hr,_⟩
  .exact absurd h3 h0
  .exact hr.lt
 |froz m c=>exact ho.elim
 |deep m cs rs=>
  obtain⟨_,⟨_,_,h3⟩,h4,_⟩:=h;rcases ho with⟨h0,rfl⟩|⟨r,c,hr,h0,rfl⟩
  .rcases h3 with h3|⟨hr,_⟩
   .exact absurd h3 h0
   .exact hr.lt
  .obtain⟨_,_,h3⟩:=h4 r c hr
   rcases h3 with h3|⟨hr,_⟩
   .exact absurd h3 h0
   .exact hr.lt
 |map m kt es=>
  obtain⟨_,_,_,_,h2,_⟩:=h;obtain⟨h0,rfl⟩:=ho;grind
 |dead=>exact ho.elim
theorem okB.org{O:Bool->Nat->Prop}{b:Blk}{l:Loc}(h:okB w F G O b l){B:Nat}(ho:owns b l B):∃m,O m B:=by
 cases b with
 |live m c=>
  obtain⟨_,_,h3⟩:=h;obtain⟨h0,rfl⟩:=ho;grind
 |froz m c=>exact ho.elim
 |deep m cs rs=>
  obtain⟨_,⟨_,_,h3⟩,h4,_⟩:=h;rcases ho with⟨h0,rfl⟩|⟨r,c,hr,h0,rfl⟩
  .grind
  .obtain⟨_,_,h3⟩:=h4 r c hr
   grind
 |map m kt es=>
  obtain⟨h0,rfl⟩:=ho;exact⟨m,h.2.1⟩
 |dead=>exact ho.elim
theorem okB.orgF{O:Bool->Nat->Prop}{b:Blk}{l:Loc}(h:okB w F G O b l){B:Nat}(ho:owns b l B):O (sI b) B:=by
 cases b with
 |live m c=>
  obtain⟨_,_,h3⟩:=h;obtain⟨h0,rfl⟩:=ho;rcases h3 with h3|⟨_,_,h3⟩
  .exact absurd h3 h0
  .exact h3
 |froz m c=>exact ho.elim
 |deep m cs rs=>
  obtain⟨_,⟨_,_,h3⟩,h4,_⟩:=h;rcases ho with⟨h0,rfl⟩|⟨r,c,hr,h0,rfl⟩
  .rcases h3 with h3|⟨_,h3,_⟩
   .exact absurd h3 h0
   .exact h3
  .obtain⟨_,_,h3⟩:=h4 r c hr
   rcases h3 with h3|⟨_,_,h3⟩
   .exact absurd h3 h0
   .exact h3
 |map m kt es=>
  obtain⟨h0,rfl⟩:=ho;exact h.2.1
 |dead=>exact ho.elim
theorem aY{w:World}{F G:Nat->Prop}{B:Nat}:∀{xs:List PV} {o:Nat},RepC w F G B o xs↔∀(j:Nat) (x:PV),xs[j]? =some x->∃v,w.cell? ⟨B,o+j,none⟩=some v/\v.oneCell'=true/\RepP w F G x v
 |[],o=>by simp[RepC]
 |x::xs,o=>by
  simp only[RepC];rw[aY (xs:=xs) (o:=o+1)];constructor
  .grind
  .intro h
   refine⟨by simpa using h 0 x rfl,λj y hj=> ?_⟩;have:=h (j+1) y (by simpa using hj);grind
theorem bQ{B o:Nat}{xs:List PV}(h:RepC w F G B o xs)(k:Nat):RepC w F G B (o+k) (xs.drop k):=by
 grind [aY]
theorem co{B o:Nat}{xs:List PV}(h:RepC w F G B o xs)(k:Nat):RepC w F G B o (xs.take k):=by
 grind [aY]
theorem oV{w:World}{F G:Nat->Prop}:∀{xs:List PV} {vs:List Value},RepL w F G xs vs->vs.length=xs.length
 |[],vs,h=>by grind [RepL]
 |x::xs,vs,h=>by
  simp only[RepL]at h;obtain⟨v,vs',rfl,_,hr⟩:=h;simp[oV hr]
theorem lm{w:World}{F G:Nat->Prop}:∀{xs:List PV} {vs:List Value},RepL w F G xs vs->∀(j:Nat) (x:PV),xs[j]? =some x->∃v,vs[j]? =some v/\RepP w F G x v
 |[],vs,h,j,x,hj=>by simp at hj
 |y::xs,vs,h,j,x,hj=>by
  simp only[RepL]at h;obtain⟨v,vs',rfl,hy,hr⟩:=h;cases j with
  |zero=>grind
  |succ j=>simp only[zG5]at hj |-;exact lm hr j x hj
theorem d4{w:World}{F G:Nat->Prop}{ι:Nat->Loc}:∀{xs:List AV} {vs:List Value},RepAL w F G ι xs vs->vs.length=xs.length
 |[],vs,h=>by grind [RepAL]
 |x::xs,vs,h=>by
  simp only[RepAL]at h;obtain⟨v,vs',rfl,_,hr⟩:=h;simp[d4 hr]
theorem ks{w:World}{F G:Nat->Prop}{ι:Nat->Loc}:∀{xs:List AV} {vs:List Value},RepAL w F G ι xs vs->∀(j:Nat) (x:AV),xs[j]? =some x->∃v,vs[j]? =some v/\RepA w F G ι x v
 |[],vs,h,j,x,hj=>by simp at hj
 |y::xs,vs,h,j,x,hj=>by
  simp only[RepAL]at h;obtain⟨v,vs',rfl,hy,hr⟩:=h;cases j with
  |zero=>grind
  |succ j=>simp only[zG5]at hj |-;exact ks hr j x hj
theorem xc{w:World}{F G:Nat->Prop}{ι:Nat->Loc}:∀{xs:List AV} {vs:List Value},vs.length=xs.length->(∀(j:Nat) (x:AV) (v:Value),xs[j]? =some x->vs[j]? =some v->RepA w F G ι x v)->RepAL w F G ι xs vs
 |[],vs,h,_=>by grind [RepAL]
 |x::xs,[],h,_=>by simp at h
 |x::xs,v::vs,h,hh=>by
  simp only[RepAL];exact⟨v,vs,rfl,hh 0 x v rfl rfl,xc (by simpa using h) λj y u hj hu=>hh (j+1) y u (by simpa using hj) (by simpa using hu)⟩
theorem tH{w:World}{F G:Nat->Prop}{ι:Nat->Loc}{α:Type}{f:α->AV}{g:α->Value}(h:∀a,RepA w F G ι (f a) (g a)):∀xs:List α,RepAL w F G ι (xs.map f) (xs.map g)
 |[]=>by simp[RepAL]
 |x::xs=>by simp only[zC3,RepAL];exact⟨_,_,rfl,h x,tH h xs⟩
theorem i8{w:World}{F G:Nat->Prop}{ι:Nat->Loc}:∀{xs ys:List AV} {vs us:List Value},RepAL w F G ι xs vs->RepAL w F G ι ys us->RepAL w F G ι (xs++ys) (vs++us)
 |[],_,_,_,h,h'=>by grind [RepAL]
 |x::xs,ys,vs,us,h,h'=>by
  simp only[RepAL]at h;obtain⟨v,vs',rfl,hx,hr⟩:=h;simp only[zF8,RepAL];exact⟨_,_,rfl,hx,i8 hr h'⟩
theorem RepAL_p{w:World}{F G:Nat->Prop}{ι:Nat->Loc}:∀{xs:List PV} {vs:List Value},RepAL w F G ι (xs.map .p) vs↔RepL w F G xs vs
 |[],vs=>by simp[RepAL,RepL]
 |x::xs,vs=>by
  simp only[zC3,RepAL,RepL,RepA];constructor
  .rintro⟨v,vs',rfl,h,hr⟩;exact⟨v,vs',rfl,h,RepAL_p.1 hr⟩
  .rintro⟨v,vs',rfl,h,hr⟩;exact⟨v,vs',rfl,h,RepAL_p.2 hr⟩
end Go.Gl
namespace Go.Gl
open Go
variable [Amb]
structure Rel(w0:World)(nA nt:Nat)(M G:Nat->Prop)(ι0:Nat->Loc)(A:Nat->Prop)(w:World)(S:St)(ι:Nat->Loc)(a:Act):Prop where
 keep:Keep w0 w M
 heap:HeapOk w w0.heap.size M G S.h ι
 slots:∀t,RepA w (Held S.h ι) G ι (S.e t) (a.tmps.getD t undef)
 alloc:∀id,¬A id->S.h id=.dead
 named:∀t i,(S.e t).has i=true->A i
 loc:∀j,j<nA->LocEq (ι0 j) (ι j)
 args:∀j,j<nA->A j
 new:∀B,w0.heap.size<=B->G B
 size:a.tmps.size=nt
 defers:a.defers=[]
section
variable {w0:World}{nA nt:Nat}{M G:Nat->Prop}{ι0:Nat->Loc}{A:Nat->Prop}{w:World}{S:St}{ι:Nat->Loc}{a:Act}
theorem Rel.mono(h:Rel w0 nA nt M G ι0 A w S ι a)(hA:∀i,A i->A' i):Rel w0 nA nt M G ι0 A' w S ι a:=
 ⟨h.keep,h.heap,h.slots,λi hi=>h.alloc i λh=>hi (hA i h),λt i hi=>hA i (h.named t i hi),h.loc,λj hj=>hA j (h.args j hj),h.new,h.size,h.defers⟩
theorem Nw{a:Act}{v:Value}{t:Nat}(hd:d<a.tmps.size):(a.put (some d) v).tmps.getD t undef=if t=d then v else a.tmps.getD t undef:=by
 simp only[Act.put,Array.getD_eq_getD_getElem?,Array.getElem?_setIfInBounds];grind
theorem Rel.put(h:Rel w0 nA nt M G ι0 A w S ι a)(d:Option Nat)(hd:∀x,d=some x->x<nt){v:AV}(hv:RepA w (Held S.h ι) G ι v val)(hn:∀i,v.has i=true->A i):
  Rel w0 nA nt M G ι0 A w (S.puto d v) ι (a.put d val):=by
 cases d with
 |none=>exact h
 |some d=>
  have hd':d<a.tmps.size:=by rw[h.size];exact hd d rfl
  refine⟨h.keep,h.heap,λt=> ?_,h.alloc,λt i hi=> ?_,h.loc,h.args,h.new,by simp[Act.put,h.size],h.defers⟩
  .rw[Nw hd']
   simp only[St.puto,St.put];by_cases ht:t=d
   .grind
   .simp only[ht,zE3];exact h.slots t
  .simp only[St.puto,St.put]at hi
   by_cases ht:t=d
   .grind
   .simp only[ht,zE3]at hi;exact h.named t i hi
def Frz(h h':Nat->Blk):Prop:=∀id,h' id=h id\/∃m c,h id=.live m c/\h' id=.froz m c
theorem Frz.refl(h:Nat->Blk):Frz h h:=λ_=>.inl rfl
theorem Frz.owns{h h':Nat->Blk}(f:Frz h h'){l:Loc}{B:Nat}(ho:owns (h' id) l B):owns (h id) l B:=by
 rcases f id with e|⟨m,c,_,e⟩
 .rw[e]at ho;exact ho
 .rw[e]at ho;exact ho.elim
theorem Frz.held{h h':Nat->Blk}(f:Frz h h'){ι:Nat->Loc}{B:Nat}(hh:Held h' ι B):Held h ι B:=by
 obtain⟨id,ho⟩:=hh;exact⟨id,f.owns ho⟩
theorem Stays.frz{h h':Nat->Blk}(f:Frz h h')(w:World)(ι:Nat->Loc):Stays w w (Held h ι) (Held h' ι):=
 λ_ _ _ hF hv=>⟨hv,λhh=>hF (f.held hh)⟩
theorem HeapOk.upd{h h':Nat->Blk}{ι':Nat->Loc}(ok:HeapOk w z M G h ι)(st:Stays w w' (Held h ι) (Held h' ι'))
  (hb:∀id,(h' id=h id/\ι' id=ι id/\∀B,owns (h id) (ι id) B->w'.heap[B]? =w.heap[B]?)\/okB w' (Held h' ι') G (Org z M G) (h' id) (ι' id))
  (ap:∀id id' B,owns (h' id) (ι' id) B->owns (h' id') (ι' id') B->id=id'):HeapOk w' z M G h' ι':=
 ⟨λid=>by
  rcases hb id with⟨e1,e2,e3⟩|hb
  .rw[e1,e2];exact(ok.ok id).tr st (λ_ _ _ h=>h) e3 (λ_ _ _ h=>h)
  .exact hb,ap⟩
theorem HeapOk.frz{h h':Nat->Blk}(ok:HeapOk w z M G h ι)(f:Frz h h'):HeapOk w z M G h' ι:=by
 have tr:∀{B o xs},RepC w (Held h ι) G B o xs->RepC w (Held h' ι) G B o xs:=λhc=>RepC.tr (Stays.frz f w ι) (λ_ _ _ h=>h) _ _ _ (λ_ _ hv=>hv) hc;refine ok.upd (Stays.frz f w ι) (λid=> ?_) λid id' B ho ho'=>ok.apart id id' B (f.owns ho) (f.owns ho');rcases f id with e|⟨m',c',hl,e⟩
 .grind
 .right
  rw[e];obtain⟨h1,h2,h3⟩:=ok.live id m' c' hl;refine⟨h1,h2, ?_⟩;rcases h3 with h0|⟨_,hc,hx⟩
  .simp_all [zA4]
  .by_cases h0:(ι id).cap=0
   .simp_all [zA4]
   .right
    refine⟨?_,λhm=> ?_,tr hc⟩
    .rintro⟨id',ho'⟩
     have:=ok.apart id' id _ (f.owns ho') (kf hl h0);subst this;rw[e]at ho';exact ho'
    grind
theorem Rel.frz(h:Rel w0 nA nt M G ι0 A w S ι a){h':Nat->Blk}(f:Frz S.h h'):Rel w0 nA nt M G ι0 A w {S with h:=h'} ι a:=by
 refine⟨h.keep,h.heap.frz f,λt=>RepA.tr (Stays.frz f w ι) (λ_ _ _ h=>h) _ _ (λ_ _=>LocEq.refl _) (h.slots t),λi hi=> ?_,h.named,h.loc,h.args,h.new,h.size,h.defers⟩;rcases f i with e|⟨m,c,hl,_⟩
 .exact e.trans (h.alloc i hi)
 .rw[h.alloc i hi]at hl;cases hl
theorem bO(h:Nat->Blk):∀(l m:List (Nat×Blk)),hwsH h (l++m)=hwsH (hwsH h l) m
 |[],_=>rfl
 |(i,b)::l,m=>by simp only[zF8,hwsH];exact bO _ l m
def FrzL(h:Nat->Blk)(ws:List (Nat×Blk)):Prop:=∀p∈ws,∃m c,h p.1=.live m c/\p.2=.froz m c
theorem FrzL.frz{h:Nat->Blk}:∀{ws:List (Nat×Blk)},FrzL h ws->Frz h (hwsH h ws):=by
 have key:∀(ws:List (Nat×Blk)) (g:Nat->Blk),Frz h g->FrzL h ws->Frz h (hwsH g ws):=by
  intro ws
  induction ws with
  |nil=>intro g hg _;exact hg
  |cons p ws ih=>
   intro g hg hw;obtain⟨i,b⟩:=p;simp only[hwsH];refine ih _ (λid=> ?_) λq hq=>hw q (by simp[hq]);obtain⟨m,c,hl,hb⟩:=hw (i,b) (by simp);by_cases e:id=i
   .grind
   .simp only[e,zE3];exact hg id
 grind [Frz.refl]
theorem bN{x:PV}{v:Value}(hx:x.cellOk=true)(h:RepP w F G x v):v.oneCell'=true:=by
 cases x<;>simp only[PV.cellOk]at hx<;>simp only[RepP]at h
 case int=>subst h;rfl
 case bool=>subst h;rfl
 case str=>subst h;rfl
 case sl=>obtain⟨_,_,rfl,_⟩:=h;rfl
 case fn=>obtain⟨_,_,rfl,_⟩:=h;rfl
 case nilf=>subst h;rfl
 case nl=>subst h;rfl
 all_goals simp at hx
theorem go{x:PV}{v:Value}(h:RepP w F G x v):RepP w F G x.cell v:=by
 cases x with
 |sl o xs=>
  cases o with
  |own=>
   grind [PV.cell,RepP]
  |_=>exact h
 |_=>exact h
theorem rK{h h':Nat->Blk}(ok:HeapOk w z M G h ι)(f:Frz h h'){off len:Nat}{c:List PV}(hb:h' id=.froz m c)(hle:off+len<=c.length)
  (hv:RepA w (Held h ι) G ι (.ref id off len) val):RepP w (Held h' ι) G (.sl (.lent m) ((c.drop off).take len)) val:=by
 have ok':=ok.frz f;obtain⟨h1,h2,h3⟩:=ok'.froz id m c hb;simp only[RepA]at hv;obtain⟨a',cap,rfl,hlc,hcap,hcm,ha⟩:=hv;have hlen:((c.drop off).take len).length=len:=by simp;omega
 simp only[RepP];refine⟨a',cap,by rw[hlen],by rw[hlen];exact hlc,by omega, ?_, ?_⟩
 .grind [Fl.lent]
 .by_cases h0:len=0
  .grind
  .right
   rcases h3 with h3|⟨hF,hG,hc⟩
   .grind
   .rcases ha with ha|ha
    .omega
    .refine⟨_,_,ha,hF,λe=>hG ?_,co (bQ hc off) len⟩
     grind [Fl.lent]
theorem s6{v:AV}{K:PV->List (Nat×Blk)->List Nat->Prop}(hp:Ek S.h v K):
  ∃x ws rd,K x ws rd/\FrzL S.h ws/\x.cellOk=true/\(∀p∈ws,p.1∈rd)/\
   ∀{w:World} {z:Nat} {M G:Nat->Prop} {ι:Nat->Loc} {h':Nat->Blk} {val:Value},HeapOk w z M G S.h ι->Frz S.h h'->(∀p∈ws,h' p.1=p.2)->RepA w (Held S.h ι) G ι v val->RepP w (Held h' ι) G x val:=by
 unfold Ek at hp;split at hp
 .rename_i x
  refine⟨_,_,_,hp.2,λp hp=>by simp at hp,hp.1,λp hp=>by simp at hp, ?_⟩;intro w z M G ι h' val ok f _ hv;exact RepP.tr (Stays.frz f w ι) (λ_ _ _ h=>h) _ _ (go hv)
 .rename_i id off len
  split at hp
  .rename_i m c hb
   refine⟨_,_,_,hp.2,λp hp=> ?_, ?_,λp hp=> ?_, ?_⟩
   .grind
   .cases m<;>rfl
   .grind
   .intro w z M G ι h' val ok f hw hv
    exact rK ok f (hw (id,.froz m c) (by simp)) hp.1 hv
  .rename_i m c hb
   refine⟨_,_,_,hp.2,λp hp=>by simp at hp, ?_,λp hp=>by simp at hp, ?_⟩
   .cases m<;>rfl
   .intro w z M G ι h' val ok f hw hv
    refine rK ok f ?_ hp.1 hv;rcases f id with e|⟨m',c',hl,_⟩
    .rw[e];exact hb
    grind
  .exact hp.elim
 .exact hp.elim
theorem FrzL.append{h:Nat->Blk}{l m:List (Nat×Blk)}(hl:FrzL h l)(hm:FrzL h m):FrzL h (l++m):=λp hp=>by
 rcases zB3.1 hp with hp|hp
 .exact hl p hp
 .exact hm p hp
theorem qC:∀{vs:List AV} {K:List PV->List (Nat×Blk)->List Nat->Prop},nQ S.h vs K->
  ∃xs ws rd,K xs ws rd/\FrzL S.h ws/\xs.length=vs.length/\(∀x∈xs,x.cellOk=true)/\(∀p∈ws,p.1∈rd)/\
   ∀{w:World} {z:Nat} {M G:Nat->Prop} {ι:Nat->Loc} {h':Nat->Blk},HeapOk w z M G S.h ι->Frz S.h h'->(∀p∈ws,h' p.1=p.2)->∀(j:Nat) (v:AV) (val:Value) (x:PV),vs[j]? =some v->xs[j]? =some x->RepA w (Held S.h ι) G ι v val->RepP w (Held h' ι) G x val
 |[],K,hp=>⟨[],[],[],hp,λp hp=>by simp at hp,rfl,λx hx=>by simp at hx,λp hp=>by simp at hp,λ_ _ _ j v val x hj=>by simp at hj⟩
 |v::vs,K,hp=>by
  simp only[nQ]at hp;obtain⟨x,ws,rd,hK,hf,hx,hw,hr⟩:=s6 hp;obtain⟨xs,ws',rd',hK',hf',hl,hxs,hw',hr'⟩:=qC hK;refine⟨x::xs,ws++ws',rd++rd',hK',hf.append hf',by simp[hl], ?_, ?_, ?_⟩
  .grind
  .grind
  .intro w z M G ι h' ok f hh j u val y hj hy hv
   cases j with
   |zero=>
    simp only[zF3,zF2]at hj hy;subst hj hy;exact hr ok f (λp hp=>hh p (zB3.2 (.inl hp))) hv
   |succ j=>
    simp only[zG5]at hj hy;exact hr' ok f (λp hp=>hh p (zB3.2 (.inr hp))) j u val y hj hy hv
theorem sm{h:Nat->Blk}{ws:List (Nat×Blk)}(hf:FrzL h ws):∀p∈ws,hwsH h ws p.1=p.2:=by
 have key:∀(ws:List (Nat×Blk)) (g:Nat->Blk) (i:Nat) (m:Bool) (c:List PV),FrzL h ws->h i=.live m c->(g i=.froz m c\/∃b,(i,b)∈ws)->hwsH g ws i=.froz m c:=by
  intro ws
  induction ws with
  |nil=>
   intro g i m c _ _ hor;rcases hor with hg|⟨b,hb⟩
   .exact hg
   .simp at hb
  |cons p ws ih=>
   intro g i m c hw hi hor;obtain⟨j,b⟩:=p;simp only[hwsH];refine ih _ i m c (λq hq=>hw q (by simp[hq])) hi ?_;by_cases e:i=j
   .subst e
    left;obtain⟨m',c',hl,hb⟩:=hw (i,b) (by simp);grind
   grind
 intro p hp;obtain⟨m,c,hl,hb⟩:=hf p hp;grind
end
structure Pushed(w w':World)(o:Obj):Prop where
 heap:w'.heap=w.heap.push o
 os:w'.os=w.os
 tape:w'.tape=w.tape
 output:w'.output=w.output
 drawn:w.drawn<=w'.drawn
theorem Pushed.alloc(w:World)(o:Obj):Pushed w (w.alloc o) o:=⟨rfl,rfl,rfl,rfl,zB1 _⟩
theorem Pushed.drew(w:World)(o:Obj):Pushed w (w.drew.alloc o) o:=⟨rfl,rfl,rfl,rfl,Nat.le_succ _⟩
theorem cell?_eq(w:World)(B o:Nat):w.cell? ⟨B,o,none⟩=match w.heap[B]? with|some (.cells c _ _)=>c[o]? |_=>none:=rfl
theorem cell?_lt{B o:Nat}{v:Value}(h:w.cell? ⟨B,o,none⟩=some v):B<w.heap.size:=World.block_lt_of_cell? w _ h
theorem Pushed.old{o:Obj}(h:Pushed w w' o){B:Nat}(hB:B<w.heap.size):w'.heap[B]? =w.heap[B]? :=by
 rw[h.heap,Array.getElem?_push,zA8 (by omega)]
theorem Pushed.at{o:Obj}(h:Pushed w w' o):w'.heap[w.heap.size]? =some o:=by rw[h.heap];simp
theorem Pushed.size{o:Obj}(h:Pushed w w' o):w'.heap.size=w.heap.size+1:=by rw[h.heap];simp
theorem Pushed.cell{o:Obj}(h:Pushed w w' o){B:Nat}(hB:B<w.heap.size):w'.cell? ⟨B,i,none⟩=w.cell? ⟨B,i,none⟩:=by
 simp only[cell?_eq,h.old hB]
theorem Keep.refl(w:World)(M:Nat->Prop):Keep w w M:=⟨rfl,rfl,rfl,zB1 _,λ_ _ _=>rfl,λ_=>zB1 _⟩
theorem Keep.trans{a b c:World}(h:Keep a b M)(k:Keep b c M):Keep a c M:=
 ⟨k.os.trans h.os,k.tape.trans h.tape,k.output.trans h.output,zE0 h.size k.size,λi hi hM=>(k.block i (Nat.lt_of_lt_of_le hi h.size) hM).trans (h.block i hi hM),λq=>zE0 (h.drawn q) (k.drawn q)⟩
theorem Pushed.keep{o:Obj}(h:Pushed w w' o)(M:Nat->Prop):Keep w w' M:=
 ⟨h.os,h.tape,h.output,by rw[h.size];omega,λ_ hk _=>h.old hk,λ_=>h.drawn⟩
section
variable {w0:World}{nA nt:Nat}{M G:Nat->Prop}{ι0:Nat->Loc}{A:Nat->Prop}{w w':World}{S:St}{ι:Nat->Loc}{a:Act}
def aE(ι:Nat->Loc)(k:Nat)(l:Loc):Nat->Loc:=λi=>if i=k then l else ι i
def updH(h:Nat->Blk)(k:Nat)(b:Blk):Nat->Blk:=λi=>if i=k then b else h i
theorem aev{h:Nat->Blk}(ok:HeapOk w z M G h ι){B:Nat}(hh:Held h ι B):B<w.heap.size:=by
 obtain⟨id,ho⟩:=hh;exact(ok.ok id).lt ho
theorem CG{h:Nat->Blk}{b:Blk}{l:Loc}{B:Nat}(hh:Held (updH h k b) (aE ι k l) B):(∃id,id≠k/\owns (h id) (ι id) B)\/owns b l B:=by
 obtain⟨id,ho⟩:=hh;grind [aE,updH]
theorem Stays.newB{o:Obj}(hp:Pushed w w' o){h:Nat->Blk}{b:Blk}{l:Loc}(hl:∀B,owns b l B->B=w.heap.size):
  Stays w w' (Held h ι) (Held (updH h k b) (aE ι k l)):=by
 intro B i v hF hv;have hlt:=cell?_lt hv;refine⟨by rw[hp.cell hlt];exact hv,λhh=> ?_⟩;rcases CG hh with⟨id,_,hh⟩|hh
 .exact hF ⟨id,hh⟩
 grind
theorem Stays.new{o:Obj}(hp:Pushed w w' o){h:Nat->Blk}{xs:List PV}{l:Loc}(hl:l.B=w.heap.size):
  Stays w w' (Held h ι) (Held (updH h k (.live m xs)) (aE ι k l)):=Stays.newB hp λB ho=>ho.2.symm.trans hl
theorem HeapOk.newB{h:Nat->Blk}(ok:HeapOk w z M G h ι){o:Obj}(hp:Pushed w w' o){b:Blk}{l:Loc}(hl:∀B,owns b l B->B=w.heap.size)
  (hb:okB w' (Held (updH h k b) (aE ι k l)) G (Org z M G) b l):HeapOk w' z M G (updH h k b) (aE ι k l):=by
 refine ok.upd (Stays.newB hp hl) (λid=> ?_) λid id' B ho ho'=> ?_
 .by_cases e:id=k
  .grind [updH,aE]
  .left
   refine⟨by grind [updH],by grind [aE],λB ho=>hp.old ((ok.ok id).lt ho)⟩
 .by_cases e:id=k
  .subst e
   by_cases e':id'=id
   .exact e'.symm
   .simp only[updH,aE,zH3]at ho
    simp only[updH,aE,e',zE3]at ho';have h1:=hl B ho;have h2:=(ok.ok id').lt ho';omega
  .simp only[updH,aE,e,zE3]at ho
   by_cases e':id'=k
   .subst e'
    simp only[updH,aE,zH3]at ho';have h1:=hl B ho';have h2:=(ok.ok id).lt ho;omega
   .simp only[updH,aE,e',zE3]at ho'
    exact ok.apart id id' B ho ho'
theorem HeapOk.new{h:Nat->Blk}(ok:HeapOk w z M G h ι)(_:h k=.dead)(hp:Pushed w w' (.cells cs E (lo,hi)))
  (hz:z<=w.heap.size) (hG:G w.heap.size) (hfr:hi<=lo\/SB=true/\cs.size<=lo) (m:Bool) (xs:List PV) (cap:Nat) (hcap:cap<=maxLen) (hc:cap<=cs.size) (hx:xs.length<=cap)
  (hxs:∀(j:Nat) (x:PV),xs[j]? =some x->∃v,cs[j]? =some v/\v.oneCell'=true/\RepP w (Held h ι) G x v):
  HeapOk w' z M G (updH h k (.live m xs)) (aE ι k ⟨w.heap.size,0,cap,0,bC⟩):=by
 have st:=Stays.new (w:=w) (w':=w') (ι:=ι) hp (h:=h) (k:=k) (m:=m) (xs:=xs) (l:=⟨w.heap.size,0,cap,0,bC⟩) rfl;refine ok.newB hp (λB ho=>ho.2.symm) ⟨hx,hcap,.inr ⟨⟨cs,E,lo,hi,hp.at,by simpa using hc,hfr⟩, ?_,.inl ⟨hz,hG⟩⟩⟩;rw[aY];intro j x hj;obtain⟨v,hv,h1,hr⟩:=hxs j x hj;refine⟨v, ?_,h1,RepP.tr st (λ_ _ _ h=>h) _ _ hr⟩;rw[cell?_eq,hp.at];simpa using hv
theorem HeapOk.nilB{h:Nat->Blk}(ok:HeapOk w z M G h ι)(b:Blk)(l:Loc)(hl:∀B,¬owns b l B)(hb:∀F,okB w F G (Org z M G) b l):HeapOk w z M G (updH h k b) (aE ι k l)/\
  (∀B,Held (updH h k b) (aE ι k l) B->Held h ι B):=by
 have hh:∀B,Held (updH h k b) (aE ι k l) B->Held h ι B:=by
  intro B hB;rcases CG hB with⟨id,_,ho⟩|ho
  .exact⟨id,ho⟩
  .exact(hl B ho).elim
 have st:Stays w w (Held h ι) (Held (updH h k b) (aE ι k l)):=λB o v hF hv=>⟨hv,λh'=>hF (hh B h')⟩;refine⟨ok.upd st (λid=> ?_) λid id' B ho ho'=> ?_,hh⟩
 .grind [updH,aE]
 .by_cases e:id=k
  .grind [updH,aE]
  .by_cases e':id'=k
   .grind [updH,aE]
   .simp only[updH,aE,e,zE3]at ho
    simp only[updH,aE,e',zE3]at ho';exact ok.apart id id' B ho ho'
theorem HeapOk.nil{h:Nat->Blk}(ok:HeapOk w z M G h ι)(_:h k=.dead)(m:Bool)(l:Loc)(hl0:l.cap=0):HeapOk w z M G (updH h k (.live m [])) (aE ι k l)/\
  (∀B,Held (updH h k (.live m [])) (aE ι k l) B->Held h ι B):=
 ok.nilB _ l (λB ho=>ho.1 hl0) λF=>⟨by simp,by omega,.inl hl0⟩
theorem HeapOk.kill{h:Nat->Blk}(ok:HeapOk w z M G h ι)(k:Nat):HeapOk w z M G (updH h k .dead) ι/\(∀B,Held (updH h k .dead) ι B->Held h ι B):=by
 have e:aE ι k (ι k)=ι:=by grind [aE]
 have:=ok.nilB (k:=k) .dead (ι k) (λB ho=>ho) λF=>trivial
 rwa [e]at this
structure Wrote(w w':World)(B:Nat)(cs':Array Value):Prop where
 size:w'.heap.size=w.heap.size
 at_:∃cs E fr,w.heap[B]? =some (.cells cs E fr)/\w'.heap[B]? =some (.cells cs' E fr)/\cs'.size=cs.size
 other:∀k,k≠B->w'.heap[k]? =w.heap[k]?
 os:w'.os=w.os
 tape:w'.tape=w.tape
 output:w'.output=w.output
 drawn:w'.drawn=w.drawn
theorem HeapOk.writeB{h:Nat->Blk}(ok:HeapOk w z M G h ι)(hk:k=id\/h k=.dead){b:Blk}{l:Loc}(hw:∀B,¬owns (h id) (ι id) B->w'.heap[B]? =w.heap[B]?)
  (hl:∀B,owns b l B->owns (h id) (ι id) B)
  (hb:Stays w w' (Held h ι) (Held (updH (updH h id .dead) k b) (aE ι k l))->okB w' (Held (updH (updH h id .dead) k b) (aE ι k l)) G (Org z M G) b l):
  HeapOk w' z M G (updH (updH h id .dead) k b) (aE ι k l)/\
  (∀B,Held (updH (updH h id .dead) k b) (aE ι k l) B->Held h ι B)/\
  Stays w w' (Held h ι) (Held (updH (updH h id .dead) k b) (aE ι k l)):=by
 have back:∀{i B},i≠k->owns (updH (updH h id .dead) k b i) (aE ι k l i) B->i≠id/\owns (h i) (ι i) B:=by
  intro i B hne ho;simp only[updH,aE,hne,zE3]at ho;by_cases e:i=id
  .simp only[e,zH3]at ho;exact ho.elim
  grind
 have at_:∀{B},owns (updH (updH h id .dead) k b k) (aE ι k l k) B->owns (h id) (ι id) B:=λ{B} ho=>hl B (by grind [updH,aE]);have hh:∀B,Held (updH (updH h id .dead) k b) (aE ι k l) B->Held h ι B:=by
  rintro B ⟨i,ho⟩;by_cases e:i=k
  .subst e;exact⟨id,at_ ho⟩
  .exact⟨i,(back e ho).2⟩
 have st:Stays w w' (Held h ι) (Held (updH (updH h id .dead) k b) (aE ι k l)):=λB o v hF hv=>
  ⟨by rw[cell?_same (hw B λho=>hF ⟨id,ho⟩)];exact hv,λh'=>hF (hh B h')⟩
 refine⟨ok.upd st (λi=> ?_) λi i' B ho ho'=> ?_,hh,st⟩
 .by_cases e:i=k
  .grind [updH,aE]
  .by_cases e':i=id
   .right
    have e2:updH (updH h id .dead) k b i=.dead:=by grind [updH]
    rw[e2];trivial
   .left
    refine⟨by grind [updH],by grind [aE],λB ho=>hw B λho'=>e' (ok.apart i id B ho ho')⟩
 .by_cases e:i=k
  .subst e
   by_cases e':i'=i
   .exact e'.symm
   .obtain⟨hni,ho2⟩:=back e' ho'
    exact absurd (ok.apart i' id B ho2 (at_ ho)) hni
  .obtain⟨hni,ho1⟩:=back e ho
   by_cases e':i'=k
   .subst e'
    exact absurd (ok.apart i id B ho1 (at_ ho')) hni
   .exact ok.apart i i' B ho1 (back e' ho').2
theorem HeapOk.writeS{h h':Nat->Blk}{ι':Nat->Loc}(ok:HeapOk w z M G h ι)(X:Nat->Prop)
  (same:∀i,¬X i->i≠k->h' i=h i/\ι' i=ι i)
  (shrunk:∀i,X i->i≠k->∀B,owns (h' i) (ι' i) B->owns (h i) (ι i) B)
  (keepw:∀B,B<w.heap.size->(∀i,X i->¬owns (h i) (ι i) B)->w'.heap[B]? =w.heap[B]?)
  (src:∀B,owns (h' k) (ι' k) B->w.heap.size<=B\/∃i,X i/\owns (h i) (ι i) B/\(i≠k->¬owns (h' i) (ι' i) B))
  (okX:Stays w w' (Held h ι) (Held h' ι')->∀i,X i\/i=k->okB w' (Held h' ι') G (Org z M G) (h' i) (ι' i)):
  HeapOk w' z M G h' ι'/\(∀B,Held h' ι' B->Held h ι B\/w.heap.size<=B)/\Stays w w' (Held h ι) (Held h' ι'):=by
 have old:∀{i B},i≠k->owns (h' i) (ι' i) B->owns (h i) (ι i) B:=by
  grind
 have hh:∀B,Held h' ι' B->Held h ι B\/w.heap.size<=B:=by
  rintro B ⟨i,ho⟩;by_cases e:i=k
  .subst e
   rcases src B ho with h1|⟨x,_,h1,_⟩
   .exact .inr h1
   .exact .inl ⟨x,h1⟩
  .exact .inl ⟨i,old e ho⟩
 have st:Stays w w' (Held h ι) (Held h' ι'):=λB o v hF hv=>by
  have hlt:=cell?_lt hv;refine⟨by rw[cell?_same (keepw B hlt λi _ ho=>hF ⟨i,ho⟩)];exact hv,λh1=> ?_⟩;grind
 have cross:∀{i B},i≠k->owns (h' i) (ι' i) B->owns (h' k) (ι' k) B->False:=by
  intro i B hne ho hk;have h1:=old hne ho;rcases src B hk with h2|⟨x,_,h2,h3⟩
  .have:=(ok.ok i).lt h1;omega
  .have e:=ok.apart i x B h1 h2
   grind
 refine⟨ok.upd st (λi=> ?_) λi i' B ho ho'=> ?_,hh,st⟩
 .by_cases hx:X i\/i=k
  .grind
  .have h1:¬X i:=λe=>hx (.inl e)
   have h2:i≠k:=λe=>hx (.inr e);obtain⟨e1,e2⟩:=same i h1 h2;refine .inl ⟨e1,e2,λB ho=>keepw B ((ok.ok i).lt ho) λx hx' ho'=>h1 (ok.apart i x B ho ho'▸hx')⟩
 .by_cases e:i=k
  .grind
  .by_cases e':i'=k
   .grind
   .exact ok.apart i i' B (old e ho) (old e' ho')
theorem HeapOk.write{h:Nat->Blk}{c c':List PV}(ok:HeapOk w z M G h ι)(hid:h id=.live m c)(hk:k=id\/h k=.dead)(h0:(ι id).cap≠0)
  {cs':Array Value} (hw:Wrote w w' (ι id).B cs') (off' cap' n':Nat) (inn':Nat->Nat×Nat×Nat) (ho:(ι id).off<=off') (hoc:off'+cap'=(ι id).off+(ι id).cap) (hlen:c'.length<=cap')
  (hc':∀(j:Nat) (x:PV),c'[j]? =some x->∃v,cs'[off'+j]? =some v/\v.oneCell'=true/\RepP w (Held h ι) G x v):
  HeapOk w' z M G (updH (updH h id .dead) k (.live m c')) (aE ι k ⟨(ι id).B,off',cap',n',inn'⟩)/\
  (∀B,Held (updH (updH h id .dead) k (.live m c')) (aE ι k ⟨(ι id).B,off',cap',n',inn'⟩) B->Held h ι B)/\
  Stays w w' (Held h ι) (Held (updH (updH h id .dead) k (.live m c')) (aE ι k ⟨(ι id).B,off',cap',n',inn'⟩)):=by
 have hown:owns (h id) (ι id) (ι id).B:=kf hid h0;obtain⟨g1,g2,g3⟩:=ok.live id m c hid;rcases g3 with g3|⟨⟨cs,E,lo,hi,hcell,hfit,hfr⟩,_,gx⟩
 .exact absurd g3 h0
 obtain⟨cs1,E1,fr1,hb1,hb2,hsz⟩:=hw.at_;rw[hcell]at hb1;cases hb1
 refine ok.writeB hk (λB ho=>hw.other B λe=>ho (e▸hown)) (λB ho=>ho.2▸hown) λst=> ?_;refine⟨hlen,by simp only;omega,.inr ⟨⟨cs',E,lo,hi,hb2,by grind,by rw[hsz];exact hfr⟩, ?_,gx⟩⟩;grind [aY,cell?_eq,RepP.tr]
theorem Rel.step(h:Rel w0 nA nt M G ι0 A w S ι a){h':Nat->Blk}{ι':Nat->Loc}(hA:∀i,A i->A' i)(hk:Keep w w' M)(ok:HeapOk w' w0.heap.size M G h' ι')
  (st:Stays w w' (Held S.h ι) (Held h' ι')) (hι:∀i,A i->LocEq (ι i) (ι' i)) (hdead:∀i,¬A' i->h' i=.dead):Rel w0 nA nt M G ι0 A' w' {S with h:=h'} ι' a:=
 ⟨h.keep.trans hk,ok,λt=>RepA.tr st (λ_ _ _ h=>h) _ _ (λi hi=>hι i (h.named t i hi)) (h.slots t),hdead,λt i hi=>hA i (h.named t i hi),
  λj hj=>(h.loc j hj).trans (hι j (h.args j hj)),λj hj=>hA j (h.args j hj),h.new,h.size,h.defers⟩
end
section
variable {P:Program}{sg:FuncId->List Bool}{w0:World}{nA nt:Nat}{M G:Nat->Prop}{ι0:Nat->Loc}{A:Nat->Prop}{w:World}{S:St}{ι:Nat->Loc}{a:Act}
theorem lx{k:IntKind}{n:Int}(h:sf k n):k.wrap n=n:=by
 obtain⟨h1,h2⟩:=h;cases k<;>grind [IntKind.min,IntKind.max,IntKind.bits,IntKind.wrap]<;>(try split)<;>omega
theorem gj(v:Value):RepP w F G (bM v) v:=by
 unfold bM;split
 .simp[RepP]
 .simp[RepP]
 .simp[RepP]
 .grind [RepP]
 .simp[RepP]
 .simp[RepP]
theorem yM{F:Nat->Prop}:∀(cs:List Value),RepL w F G (cs.map bM) cs
 |[]=>by simp[RepL]
 |c::cs=>by simp only[zC3,RepL];exact⟨c,cs,rfl,gj c,yM cs⟩
theorem ov(v:Value):RepP w F G (gV v) v:=by
 unfold gV;split
 .grind [RepP,yM]
 .exact gj v
theorem Rel.opd(h:Rel w0 nA nt M G ι0 A w S ι a)(x:Operand):RepA w (Held S.h ι) G ι (Gl.BH S x) (a.eval x):=by
 cases x with
 |tmp t=>exact h.slots t
 |const v=>exact ov v
 |func f=>grind [Gl.BH,RepA,RepP,Act.eval,RepL]
 |global g=>simp only[Gl.BH,RepA,RepP]
theorem Rel.opd_named(h:Rel w0 nA nt M G ι0 A w S ι a)(x:Operand):∀i,(Gl.BH S x).has i=true->A i:=by
 cases x with
 |tmp t=>exact h.named t
 |const v=>simp[Gl.BH,AV.has]
 |func f=>simp[Gl.BH,AV.has]
 |global g=>simp[Gl.BH,AV.has]
theorem bV(S:St)(d:Option Nat)(r:R):S.app d r=({S with h:=hwsH S.h r.ws}:St).puto d r.v:=by
 cases d<;>rfl
def gh(A:Nat->Prop)(k:Nat):Nat->Prop:=λi=>A i\/(k<=i/\i<k+256)
theorem cC{K:Act->World->Prop}{Q:Exit->Act->World->Prop}{v:Value}(h:(execOp a.eval o).run P w=.ok (.value v) w')(hk:K (a.put o.dst v) w'):o.wp P a w K Q:=by
 unfold Oper.wp;rw[h];exact hk
theorem nW{K:Act->World->Prop}{Q:Exit->Act->World->Prop}(h:(execOp a.eval o).run P w=.ok .skip w')(hk:K (a.put o.dst undef) w'):o.wp P a w K Q:=by
 unfold Oper.wp;rw[h];exact hk
def Does(P:Program)(w0:World)(nA nt:Nat)(M G:Nat->Prop)(ι0:Nat->Loc)(A:Nat->Prop)(k:Nat)(o:Oper)(w:World)(S:St)(a:Act)(K:R->Prop):Prop:=
 ∀(Kc:Act->World->Prop) (Qc:Exit->Act->World->Prop),(∀r val w' ι',K r->Rel w0 nA nt M G ι0 (gh A k) w' (S.app o.dst r) ι' (a.put o.dst val)->Kc (a.put o.dst val) w')->o.wp P a w Kc Qc
theorem ax{K:R->Prop}(h:Rel w0 nA nt M G ι0 A w S ι a)(hd:∀d,o.dst=some d->d<nt){v:AV}{rd:List Nat}
  (hr:(execOp a.eval o).run P w=.ok (.value val) w) (hv:RepA w (Held S.h ι) G ι v val) (hn:∀i,v.has i=true->A i) (hK:K ⟨v,[],rd⟩):Does P w0 nA nt M G ι0 A k o w S a K:=by
 intro Kc Qc next
 refine cC hr (next _ _ _ ι hK ?_);rw[bV];exact(h.put o.dst hd hv hn).mono λi hi=>.inl hi
theorem oN{K:R->Prop}(h:Rel w0 nA nt M G ι0 A w S ι a)(hd:∀d,o.dst=some d->d<nt)(hA:∀x,x<256->¬A (k+x)){v:AV}
  (hr:(execOp a.eval o).run P w=.ok (.value val) w) (hv:RepA w (Held S.h ι) G ι v val) (hn:∀i,v.has i=true->A i) (hK:qm k v K):Does P w0 nA nt M G ι0 A k o w S a K:=by
 unfold qm at hK;split at hK
 .rename_i xs
  simp only[RepA,RepP]at hv;obtain⟨a',cap,rfl,_,_,ho,_⟩:=hv;obtain⟨rfl,rfl,rfl⟩:=ho trivial;intro Kc Qc next
  have hk:¬A k:=hA 0 (by omega);obtain⟨ok,hh⟩:=h.heap.nil (h.alloc k hk) false ⟨0,0,0,0,bC⟩ rfl;have st:Stays w w (Held S.h ι) (Held (updH S.h k (.live false [])) (aE ι k ⟨0,0,0,0,bC⟩)):=λB o v hF hv=>⟨hv,λh'=>hF (hh B h')⟩;have h1:=h.step (A':=gh A k) (λi hi=>.inl hi) (Keep.refl w M) ok st (λi hi=>by
   grind [aE,LocEq.refl]) (λi hi=>by
   have hne:i≠k:=λe=>hi (.inr ⟨by omega,by omega⟩);simp only[updH,hne,zE3];exact h.alloc i λhA=>hi (.inl hA))
  refine cC hr (next _ _ _ (aE ι k ⟨0,0,0,0,bC⟩) hK ?_);rw[bV];refine h1.put o.dst hd ?_ ?_
  .grind [RepA,aE]
  .intro i hi
   simp[AV.has]at hi;exact .inr ⟨by omega,by omega⟩
 grind [ax]
theorem fd{k:IntKind}{n:Int}{v:Value}(h:RepA w F G ι (.p (.int k n)) v):v=.int k n:=by grind [RepA,RepP]
theorem mq{v:Value}(h:RepA w F G ι (.p (.bool b)) v):v=.bool b:=by grind [RepA,RepP]
theorem lC{v:Value}(h:RepA w F G ι (.p (.str s)) v):v=.string ⟨s.toArray⟩:=by grind [RepA,RepP]
theorem yA{K:R->Prop}(h:Rel w0 nA nt M G ι0 A w S ι a)(hd:∀d,o.dst=some d->d<nt)(hA:∀x,x<256->¬A (k+x))(ho:o.op=.move x\/o.op=.assign x)
  (hK:qm k (Gl.BH S x) K):Does P w0 nA nt M G ι0 A k o w S a K:=by
 refine oN h hd hA (val:=a.eval x) ?_ (h.opd x) (h.opd_named x) hK;rcases ho with ho|ho<;>simp[execOp,ho]
theorem IV{K:R->Prop}(h:Rel w0 nA nt M G ι0 A w S ι a)(hd:∀d,o.dst=some d->d<nt)(hA:∀x,x<256->¬A (k+x))(ho:o.op=.pick c x y)
  (hK:my (Gl.BH S c) (Gl.BH S x) (Gl.BH S y) λv=>qm k v K):Does P w0 nA nt M G ι0 A k o w S a K:=by
 have hc:=h.opd c;have hx:=h.opd x;have hy:=h.opd y;have nx:=h.opd_named x;have ny:=h.opd_named y;unfold my at hK;split at hK
 .rename_i t e
  rw[e]at hc;have hc:=mq hc;have hr:(execOp a.eval o).run P w=.ok (.value (if t then a.eval x else a.eval y)) w:=by simp_all [execOp,asBool]
  grind [oN]
 .exact hK.elim
theorem bg{op:BinOp}{k k':IntKind}{i j:Int}:(eqGuard op t x y (.int k i) (.int k' j)).run P w=.ok () w:=by
 simp_all [eqGuard]
theorem lN{op:BinOp}{i j:ByteArray}:(eqGuard op t x y (.string i) (.string j)).run P w=.ok () w:=by
 simp_all [eqGuard]
theorem sw{op:BinOp}{i j:Bool}:(eqGuard op t x y (.bool i) (.bool j)).run P w=.ok () w:=by
 simp_all [eqGuard]
theorem sz:∀(x y:List UInt8),Op.bytesLess x y=yd x y
 |_,[]=>by simp[Op.bytesLess,yd]
 |[],_::_=>by simp[Op.bytesLess,yd]
 |a::x,b::y=>by simp[Op.bytesLess,yd,sz x y]
theorem TN{k:IntKind}{x y:Int}(hx0:0<=x)(hy0:0<=y)(hx:sf k x)(hy:sf k y):
  k.wrap ((BitVec.ofInt k.bits x&&& BitVec.ofInt k.bits y).toNat:Int)=((x.toNat&&& y.toNat:Nat):Int):=by
 obtain⟨n,rfl⟩:=zG6 hx0;obtain⟨m,rfl⟩:=zG6 hy0;have hb:k.max<2^k.bits:=by cases k<;>grind [IntKind.max,IntKind.bits]
 have hn:n<2^k.bits:=by have:=hx.2;grind
 have hm:m<2^k.bits:=by have:=hy.2;grind
 have e:(BitVec.ofInt k.bits (n:Int)&&& BitVec.ofInt k.bits (m:Int)).toNat=n&&& m:=by
  grind
 rw[e];have hle:n&&& m<=n:=Nat.and_le_left;simp only[zC9];refine lx ⟨?_, ?_⟩
 .grind [IntKind.min]
 .have:=hx.2;omega
theorem gN{k:IntKind}{n:Int}:RepP w F G (.int k n) (.int k n):=by simp only[RepP]
theorem gp:RepP w F G (.bool b) (.bool b):=by simp only[RepP]
theorem Ef(d:Nat)(t e:TypeId)(a:Option Addr)(l c:Nat)(h:P.underlying t=some (.slice e)):(Op.equalIn (d+1) t (.slice a l c) (.slice none 0 0)).run P w=.ok a.isNone w:=by
 cases a<;>simp[Op.equalIn,zD2 h]
theorem vB(t e:TypeId)(a:Option Addr)(l c:Nat)(h:P.underlying t=some (.slice e)):(Op.equal t (.slice a l c) (.slice none 0 0)).run P w=.ok a.isNone w:=Ef 9999 t e a l c h
theorem Br(t:TypeId)(a:Option Addr)(l c:Nat)(h:HK P t):(binOp .eql t (.slice a l c) (.slice none 0 0)).run P w=.ok (.bool a.isNone) w:=by
 obtain⟨e,h⟩:=h;simp_all [binOp,vB]
theorem Bq(t:TypeId)(a:Option Addr)(l c:Nat)(h:HK P t):(binOp .neq t (.slice a l c) (.slice none 0 0)).run P w=.ok (.bool (!a.isNone)) w:=by
 obtain⟨e,h⟩:=h;simp_all [binOp,vB]
theorem wy{op:BinOp}{a b:Option Addr}{l:Nat}:(eqGuard op t x y (.slice a i j) (.slice b k l)).run P w=.ok () w:=by
 simp_all [eqGuard]
theorem BQ{x:AV}{K:Bool->Prop}(hx:RepA w F G ι x u)(hK:BR x K):∃a l c,u=.slice a l c/\K a.isNone:=by
 unfold BR at hK;grind [RepA,RepP]
theorem QA{op:BinOp}{x y:AV}{v:Value}{K:PV->Prop}(hx:RepA w F G ι x u)(hy:RepA w F G ι y v)(hK:jr P op t x y K):
  ∃z,K z/\(∃val,RepP w F G z val/\∀ox oy,(do eqGuard op t ox oy u v;binOp op t u v:Sem Value).run P w=.ok val w):=by
 unfold jr at hK;split at hK
 .rename_i k i k' j
  have hx:=fd hx;have hy:=fd hy;subst hx hy;split at hK
  .obtain⟨rfl,hr,hk⟩:=hK
   exact⟨_,hk,_,gN,λox oy=>by simp_all [bg,binOp,Op.intArith,lx]⟩
  .obtain⟨rfl,hr,hk⟩:=hK
   exact⟨_,hk,_,gN,λox oy=>by simp_all [bg,binOp,Op.intArith,lx]⟩
  .obtain⟨rfl,hr,hk⟩:=hK
   exact⟨_,hk,_,gN,λox oy=>by simp_all [bg,binOp,Op.intArith,lx]⟩
  .obtain⟨rfl,h0,hr,hk⟩:=hK
   exact⟨_,hk,_,gN,λox oy=>by simp_all [bg,binOp,Op.intDiv,lx]⟩
  .obtain⟨rfl,h0,hk⟩:=hK
   exact⟨_,hk,_,gN,λox oy=>by simp_all [bg,binOp,Op.intDiv]⟩
  .obtain⟨h0,h1,hr,hk⟩:=hK
   refine⟨_,hk,_,gN,λox oy=> ?_⟩;have n0:¬j<0:=by omega
   have n1:min j.toNat k.bits=j.toNat:=by omega
   simp[bg,binOp,Op.shift,n0,n1,lx hr]
  .obtain⟨h0,h1,hk⟩:=hK
   refine⟨_,hk,_,gN,λox oy=> ?_⟩;have n0:¬j<0:=by omega
   have n1:min j.toNat k.bits=j.toNat:=by omega
   simp[bg,binOp,Op.shift,n0,n1]
  .obtain⟨rfl,h0,h1,r0,r1,hk⟩:=hK
   exact⟨_,hk,_,gN,λox oy=>by grind [zD4,bg,zD6,binOp,Op.intBits,zI2,TN]⟩
  .obtain⟨rfl,hk⟩:=hK
   exact⟨_,hk,.bool (i==j),by grind [RepP],λox oy=>by simp[bg,binOp,Op.intCmp]⟩
  .obtain⟨rfl,hk⟩:=hK
   exact⟨_,hk,.bool (i !=j),by grind [RepP],λox oy=>by simp[bg,binOp,Op.intCmp]⟩
  .obtain⟨rfl,hk⟩:=hK
   exact⟨_,hk,_,gp,λox oy=>by simp[bg,binOp,Op.intCmp]⟩
  .obtain⟨rfl,hk⟩:=hK
   exact⟨_,hk,_,gp,λox oy=>by simp[bg,binOp,Op.intCmp]⟩
  .obtain⟨rfl,hk⟩:=hK
   exact⟨_,hk,_,gp,λox oy=>by simp[bg,binOp,Op.intCmp]⟩
  .obtain⟨rfl,hk⟩:=hK
   exact⟨_,hk,_,gp,λox oy=>by simp[bg,binOp,Op.intCmp]⟩
  .exact hK.elim
 .rename_i s t'
  have hx:=lC hx;have hy:=lC hy;subst hx hy;have eqv:(ByteArray.toList ⟨s.toArray⟩==ByteArray.toList ⟨t'.toArray⟩)=decide (s=t'):=by
   grind [ByteArray.toList_eq]
  have e:∀l:List UInt8,ByteArray.toList ⟨l.toArray⟩=l:=λl=>ByteArray.toList_eq ⟨l.toArray⟩;split at hK
  .obtain⟨hl,hk⟩:=hK
   refine⟨_,hk,.string (⟨s.toArray⟩++⟨t'.toArray⟩), ?_,λox oy=> ?_⟩
   .simp only[RepP]
    exact zB5 Value.string (by apply ByteArray.ext;first|rfl|simp)
   .have hsz:¬(IntKind.i64.max<(((⟨s.toArray⟩:ByteArray).size+(⟨t'.toArray⟩:ByteArray).size:Nat):Int)):=by
     grind [ByteArray.size,IntKind.max,IntKind.bits]
    simp_all [zD4,lN,zD6,binOp,Op.stringOp]
  .exact⟨_,hK,_,gp,λox oy=>by grind [zD4,lN,zD6,binOp,Op.stringOp,zI2]⟩
  .exact⟨_,hK,_,gp,λox oy=>by grind [zD4,lN,zD6,binOp,Op.stringOp,zI2]⟩
  .exact⟨_,hK,_,gp,λox oy=>by simp[lN,binOp,Op.stringOp,e,sz]⟩
  .exact hK.elim
 .rename_i b c
  have hx:=mq hx;have hy:=mq hy;subst hx hy;have ht:∀(hb:wQ P t=true),P.underlying t=some .bool:=λhb=>by
   grind [wQ]
  split at hK
  .obtain⟨hb,hk⟩:=hK
   exact⟨_,hk,.bool (b==c),by simp only[RepP],λox oy=>by
    grind [zD4,sw,zD6,run_eql_bool]⟩
  .obtain⟨hb,hk⟩:=hK
   exact⟨_,hk,.bool (!(b==c)),by simp only[RepP],λox oy=>by
    grind [zD4,sw,zD6,run_neq_bool]⟩
  .exact hK.elim
 .have hy:v=.slice none 0 0:=by
   grind [RepA,RepP]
  subst hy;split at hK
  .obtain⟨hb,hk⟩:=hK
   obtain⟨a,l,c,rfl,hk⟩:=BQ hx hk;exact⟨_,hk,_,gp,λox oy=>by
    grind [zD4,wy,zD6,Br]⟩
  .obtain⟨hb,hk⟩:=hK
   obtain⟨a,l,c,rfl,hk⟩:=BQ hx hk;exact⟨_,hk,_,gp,λox oy=>by
    grind [zD4,wy,zD6,Bq]⟩
  .exact hK.elim
 .exact hK.elim
theorem Hj{K:R->Prop}(h:Rel w0 nA nt M G ι0 A w S ι a)(hd:∀d,o.dst=some d->d<nt)(ho:o.op=.move x\/o.op=.assign x)
  (hK:Ur (Gl.BH S x) K):Does P w0 nA nt M G ι0 A k o w S a K:=by
 have hx:=h.opd x;unfold Ur at hK;split at hK
 .rename_i e
  rw[e]at hx;simp only[RepA,RepP]at hx;obtain⟨a',cap,ev,_,_,ho',_⟩:=hx;obtain⟨rfl,rfl,rfl⟩:=ho' trivial;refine ax h hd (v:=.p .nl) (val:=a.eval x) ?_ (by grind [RepA,RepP]) (by simp[AV.has]) hK;rcases ho with ho|ho<;>simp[execOp,ho]
 .exact hK.elim
theorem Ob{K:R->Prop}(h:Rel w0 nA nt M G ι0 A w S ι a)(hd:∀d,o.dst=some d->d<nt){op:BinOp}(ho:o.op=.binOp op t x y t')
  (hK:jr P op t (Gl.BH S x) (Gl.BH S y) λv=>K ⟨.p v,[],[]⟩):Does P w0 nA nt M G ι0 A k o w S a K:=by
 obtain⟨z,hk,val,hv,hr⟩:=QA (h.opd x) (h.opd y) hK;refine ax h hd (v:=.p z) (val:=val) ?_ (by grind [RepA]) (by simp[AV.has]) hk;grind [zD4,execOp,zI2,Result.andThen]
theorem Tj{K:R->Prop}(h:Rel w0 nA nt M G ι0 A w S ι a)(hd:∀d,o.dst=some d->d<nt){op:UnOp}(ho:o.op=.unOp op t x)
  (hK:T4 op (Gl.BH S x) λv=>K ⟨.p v,[],[]⟩):Does P w0 nA nt M G ι0 A k o w S a K:=by
 have hx:=h.opd x;unfold T4 at hK;split at hK
 .rename_i b e
  rw[e]at hx;have hx:=mq hx;exact ax h hd (val:=.bool (!b)) (by simp_all [execOp,Op.unary]) (by simp only[RepA,RepP]) (by simp[AV.has]) hK
 .rename_i k' i e
  rw[e]at hx;have hx:=fd hx;exact ax h hd (val:=.int k' (0-i)) (by simp_all [execOp,Op.unary,Op.intArith,lx]) (by simp only[RepA,RepP]) (by simp[AV.has]) hK.2
 .exact hK.elim
end
theorem rE{b:Nat}{z:PV}(h:jK P t=some (b,z)):∃e i zv,P.underlying t=some (.slice e)/\P.info? e=some i/\i.zero=some zv/\i.size=1/\zv.cells.size=1/\zv.oneCell'=true/\i.bytes=b/\b<=64/\z=(bM zv).cell:=by
 grind [jK]
theorem da(h:(jK P t).isSome=true):∃e i zv,P.underlying t=some (.slice e)/\P.info? e=some i/\i.zero=some zv/\i.size=1/\zv.cells.size=1/\zv.oneCell'=true/\i.bytes<=64:=by
 grind [jK]
theorem jk(h:jX P t=true):P.underlying t=some .string:=by
 grind [jX]
theorem yh{k:IntKind}(h:Cn P t=some k):P.underlying t=some (.int k):=by
 grind [Cn]
theorem y6{n:Nat}(h:pU P t=some (n,true)):∃i,P.info? t=some i/\i.size=n/\((∃fs,P.underlying t=some (.struct fs))\/∃m e,P.underlying t=some (.array m e)):=by
 grind [pU]
theorem uD{n:Nat}(h:pU P t=some (n,false)):∃i d,P.info? t=some i/\i.size=n/\P.underlying t=some d/\(∀fs,d≠ .struct fs)/\(∀m e,d≠ .array m e):=by
 grind [pU]
theorem mZ(h:nJ P t=true):∃e i zv,P.underlying t=some (.slice e)/\P.info? e=some i/\i.zero=some zv/\i.size=2:=by
 grind [nJ,Option.isSome_iff_exists]
theorem HX(h:(jK P t).isSome=true):¬nJ P t=true:=by
 grind [da,mZ]
theorem fE(B o j:Nat):(⟨B,o,none⟩:Addr).add j=⟨B,o+j,none⟩:=by
 grind [Addr.add]
section
variable {P:Program}{sg:FuncId->List Bool}{w0:World}{nA nt:Nat}{M G:Nat->Prop}{ι0:Nat->Loc}{A:Nat->Prop}{w:World}{S:St}{ι:Nat->Loc}{a:Act}
theorem pZ{d:TypeDesc}(h:P.underlying t=some d)(h1:∀fs,d≠ .struct fs)(h2:∀m e,d≠ .array m e)(w:World):(isAgg t).run P w=.ok false w:=by
 simp_all [isAgg,zD4,zD2,zD6,absurd]
theorem xw(h:(∃fs,P.underlying t=some (.struct fs))\/∃m e,P.underlying t=some (.array m e))(w:World):(isAgg t).run P w=.ok true w:=by
 unfold isAgg;rcases h with⟨fs,h⟩|⟨m,e,h⟩<;>simp[zD2 h]
theorem lg{K:R->Prop}(h:Rel w0 nA nt M G ι0 A w S ι a)(hd:∀d,o.dst=some d->d<nt)(hA:∀x,x<256->¬A (k+x)){rd:List Nat}
  (hr:(execOp a.eval o).run P w=.ok (.value (.slice ad 0 0)) w) (hK:K ⟨.ref k 0 0,[(k,.live false [])],rd⟩):Does P w0 nA nt M G ι0 A k o w S a K:=by
 intro Kc Qc next
 have hk:¬A k:=hA 0 (by omega);obtain⟨ok,hh⟩:=h.heap.nil (h.alloc k hk) false ⟨0,0,0,0,bC⟩ rfl;have st:Stays w w (Held S.h ι) (Held (updH S.h k (.live false [])) (aE ι k ⟨0,0,0,0,bC⟩)):=λB o v hF hv=>⟨hv,λh'=>hF (hh B h')⟩;have h1:=h.step (A':=gh A k) (λi hi=>.inl hi) (Keep.refl w M) ok st (λi hi=>by
  grind [aE,LocEq.refl]) (λi hi=>by
  have hne:i≠k:=λe=>hi (.inr ⟨by omega,by omega⟩);simp only[updH,hne,zE3];exact h.alloc i λhA=>hi (.inl hA))
 refine cC hr (next _ _ _ (aE ι k ⟨0,0,0,0,bC⟩) hK ?_);rw[bV];refine h1.put o.dst hd ?_ ?_
 .grind [RepA,aE]
 .intro i hi
  simp[AV.has]at hi;exact .inr ⟨by omega,by omega⟩
theorem dH(h:Rel w0 nA nt M G ι0 A w S ι a){x:Option Operand}{K:Int->Prop}(hb:ll (Gl.BH S) x d K):(x=none/\K d)\/∃o k i,x=some o/\a.eval o=.int k i/\K i:=by
 unfold ll at hb;split at hb
 .grind
 .rename_i o
  split at hb
  .rename_i k i e
   have:=h.opd o;rw[e]at this;exact .inr ⟨o,k,i,rfl,fd this,hb⟩
  .exact hb.elim
theorem ua{B o:Nat}{xs:List PV}(h:RepC w F G B o xs)(l n:Nat):RepC w F G B (o+l) ((xs.take n).drop l):=bQ (co h n) l
theorem mW{e:TypeId}{i:TypeInfo}(hu:P.underlying t=some (.slice e))(hi:P.info? e=some i)(hs:i.size=1){len cap:Nat}{lo hi':Option Value}{h:Int}
  (hl:(lo=none/\l=0)\/∃k,lo=some (.int k l)) (hh:(hi'=none/\h=len)\/∃k,hi'=some (.int k h)) (h0:0<=l) (h1:l<=h) (h2:h<=cap) (w:World):
  (Instr.sliceAt t (.slice ad len cap) lo hi' none).run P w=.ok (.slice (if cap=l.toNat then ad else ad.map (·.add l.toNat)) (h.toNat-l.toNat) (cap-l.toNat)) w:=by
 have e1:(0<=h/\h<=(cap:Int)):=⟨by omega,h2⟩;have e2:(0<=l/\l<=(h.toNat:Int)):=⟨h0,by omega⟩;rcases hl with⟨rfl,rfl⟩|⟨k,rfl⟩<;>rcases hh with⟨rfl,rfl⟩|⟨k',rfl⟩<;>
  simp_all [Instr.sliceAt,Instr.slice,zD2,Instr.sliceBounds,Instr.sliceBound,asIntOf,sizeOf,typeInfo]<;>(try simp[e2,h1])<;>omega<;>omega
theorem vA(hu:P.underlying t=some .string){s:ByteArray}{lo hi':Option Value}{h:Int}
  (hl:(lo=none/\l=0)\/∃k,lo=some (.int k l)) (hh:(hi'=none/\h=s.size)\/∃k,hi'=some (.int k h)) (h0:0<=l) (h1:l<=h) (h2:h<=s.size) (w:World):
  (Instr.sliceAt t (.string s) lo hi' none).run P w=.ok (.string (s.extract l.toNat h.toNat)) w:=by
 have e1:(0<=h/\h<=(s.size:Int)):=⟨by omega,h2⟩;have e2:(0<=l/\l<=(h.toNat:Int)):=⟨h0,by omega⟩;rcases hl with⟨rfl,rfl⟩|⟨k,rfl⟩<;>rcases hh with⟨rfl,rfl⟩|⟨k',rfl⟩<;>
  simp_all [Instr.sliceAt,Instr.slice,zD2,Instr.sliceBounds,Instr.sliceBound,asIntOf]<;>(try simp[e2,h1])<;>omega<;>omega
theorem gf{e:TypeId}{i:TypeInfo}(hu:P.underlying t=some (.slice e))(hi:P.info? e=some i){len cap:Nat}{lo:Option Value}{kh km:IntKind}
  (hl:lo=none\/∃k,lo=some (.int k 0)) (w:World):
  (Instr.sliceAt t (.slice ad len cap) lo (some (.int kh 0)) (some (.int km 0))).run P w=.ok (.slice ad 0 0) w:=by
 rcases hl with rfl|⟨k,rfl⟩<;>simp_all [Instr.sliceAt,Instr.slice,zD2,Instr.sliceBounds,Instr.sliceBound,asIntOf,sizeOf,typeInfo]
end
section
variable {P:Program}{sg:FuncId->List Bool}{w0:World}{nA nt:Nat}{M G:Nat->Prop}{ι0:Nat->Loc}{A:Nat->Prop}{w:World}{S:St}{ι:Nat->Loc}{a:Act}
theorem jQ{o:Fl}{xs:List PV}{v:Value}(h:RepA w F G ι (.p (.sl o xs)) v):∃ad cap,v=.slice ad xs.length cap/\xs.length<=cap/\cap<=maxLen/\(o=.own->xs=[]/\ad=none/\cap=0)/\
   (xs=[]\/∃B off,ad=some ⟨B,off,none⟩/\¬F B/\(o=.fr->G B)/\RepC w F G B off xs):=by grind [RepA,RepP]
theorem cS{off len:Nat}{v:Value}(h:RepA w F G ι (.ref id off len) v):∃ad cap,v=.slice ad len cap/\len<=cap/\off+cap=(ι id).cap/\(ι id).cap<=maxLen/\(cap=0\/ad=some ⟨(ι id).B,(ι id).off+off,none⟩):=by
 grind [RepA]
theorem iQ{off len:Nat}{v:Value}(h:RepA w F G ι (.inn id r off len) v):r<(ι id).n/\∃ad cap,v=.slice ad len cap/\len<=cap/\off+cap=((ι id).sub r).cap/\((ι id).sub r).cap<=maxLen/\(cap=0\/ad=some ⟨((ι id).sub r).B,((ι id).sub r).off+off,none⟩):=by
 grind [RepA]
theorem OG(h:Rel w0 nA nt M G ι0 A w S ι a){lo hi:Option Operand}{K:Int->Int->Prop}(hb:ll (Gl.BH S) hi d λx=>ll (Gl.BH S) lo 0 λl=>K x l):
  ∃x l,K x l/\((lo.map a.eval=none/\l=0)\/∃k,lo.map a.eval=some (.int k l))/\((hi.map a.eval=none/\x=d)\/∃k,hi.map a.eval=some (.int k x)):=by
 rcases dH h hb with⟨rfl,hb1⟩|⟨o,k,i,rfl,e,hb1⟩
 .grind [dH]
 grind [dH]
theorem Fi{K:R->Prop}(h:Rel w0 nA nt M G ι0 A w S ι a)(hd:∀d,o.dst=some d->d<nt)(hA:∀x,x<256->¬A (k+x)){lo hi mx:Option Operand}
  (ho:o.op=.slice t x lo hi mx) (hK:eC P t (Gl.BH S x) lo hi mx k (Gl.BH S) K):Does P w0 nA nt M G ι0 A k o w S a K:=by
 have hx:=h.opd x;have nx:=h.opd_named x;unfold eC at hK;split at hK
 .rename_i s e
  rw[e]at hx;have hx:=lC hx;obtain⟨rfl,ht,hb⟩:=hK;obtain⟨hh,l,⟨h0,h1,h2,hk⟩,hl,hhi⟩:=OG h hb;have hsz:(⟨s.toArray⟩:ByteArray).size=s.length:=by simp[ByteArray.size]
  refine ax h hd (val:=.string ((⟨s.toArray⟩:ByteArray).extract l.toNat hh.toNat)) ?_ ?_ (by simp[AV.has]) hk
  .simp only[execOp,ho,hx,zD4,Option.map_none]
   rw[vA (jk ht) hl (by rw[hsz];exact hhi) h0 h1 (by rw[hsz];exact h2)];rfl
  .simp only[RepA,RepP]
   refine zB5 Value.string (ByteArray.ext ?_);grind [ByteArray.data_extract,List.drop_take]
 .rename_i fl xs e
  rw[e]at hx;obtain⟨ad,cap,hv,hl,hm,hown,hc⟩:=jQ hx;obtain⟨ht,hb⟩:=hK;obtain⟨el,i,zv,hu,hi',_,hsz,_⟩:=da ht;split at hb
  .obtain⟨hh,l,⟨h0,h1,h2,hk⟩,hlo,hhi⟩:=OG h hb
   refine ax h hd (val:=.slice (if cap=l.toNat then ad else ad.map (·.add l.toNat)) (hh.toNat-l.toNat) (cap-l.toNat)) ?_ ?_ (by simp[AV.has]) hk
   .simp only[execOp,ho,hv,zD4,Option.map_none]
    rw[mW hu hi' hsz hlo hhi h0 h1 (by omega)];rfl
   grind [RepA,RepP,ua,fE]
  .rename_i ox
   obtain⟨hn,hb⟩:=hb;rcases dH h hb with⟨e1,_⟩|⟨_,km,im,e1,em,hb⟩
   .cases e1
   .cases e1
    rcases dH h hb with⟨rfl,_⟩|⟨oh,kh,ih,rfl,eh,hb⟩
    .exact absurd rfl hn
    .rcases dH h hb with⟨rfl,hb⟩|⟨ol,kl,il,rfl,el',hb⟩
     .obtain⟨_,rfl,rfl,hk⟩:=hb
      refine lg h hd hA (ad:=ad) ?_ hk;simp_all [execOp,zD4,zE4,Option.map_none,gf]
     .obtain⟨rfl,rfl,rfl,hk⟩:=hb
      refine lg h hd hA (ad:=ad) ?_ hk;simp_all [execOp,zD4,zE4,gf]
 .rename_i id off len e
  rw[e]at hx nx;obtain⟨ad,cap,hv,hl,hcap,hm,hc⟩:=cS hx;obtain⟨ht,hb⟩:=hK;obtain⟨el,i,zv,hu,hi',_,hsz,_⟩:=da ht;split at hb
  .obtain⟨hh,l,⟨h0,h1,h2,hk⟩,hlo,hhi⟩:=OG h hb
   refine ax h hd (val:=.slice (if cap=l.toNat then ad else ad.map (·.add l.toNat)) (hh.toNat-l.toNat) (cap-l.toNat)) ?_ ?_ ?_ hk
   .simp only[execOp,ho,hv,zD4,Option.map_none]
    rw[mW hu hi' hsz hlo hhi h0 h1 (by omega)];rfl
   .grind [RepA,fE]
   grind [AV.has]
  .rename_i ox
   obtain⟨hn,hb⟩:=hb;rcases dH h hb with⟨e1,_⟩|⟨_,km,im,e1,em,hb⟩
   .cases e1
   .cases e1
    rcases dH h hb with⟨rfl,_⟩|⟨oh,kh,ih,rfl,eh,hb⟩
    .exact absurd rfl hn
    .rcases dH h hb with⟨rfl,hb⟩|⟨ol,kl,il,rfl,el',hb⟩
     .obtain⟨_,rfl,rfl,hk⟩:=hb
      refine lg h hd hA (ad:=ad) ?_ hk;simp_all [execOp,zD4,zE4,Option.map_none,gf]
     .obtain⟨rfl,rfl,rfl,hk⟩:=hb
      refine lg h hd hA (ad:=ad) ?_ hk;simp_all [execOp,zD4,zE4,gf]
 .rename_i id r off len e
  rw[e]at hx nx;obtain⟨hr,ad,cap,hv,hl,hcap,hm,hc⟩:=iQ hx;obtain⟨ht,hb⟩:=hK;obtain⟨el,i,zv,hu,hi',_,hsz,_⟩:=da ht;split at hb
  .obtain⟨hh,l,⟨h0,h1,h2,hk⟩,hlo,hhi⟩:=OG h hb
   refine ax h hd (val:=.slice (if cap=l.toNat then ad else ad.map (·.add l.toNat)) (hh.toNat-l.toNat) (cap-l.toNat)) ?_ ?_ ?_ hk
   .simp only[execOp,ho,hv,zD4,Option.map_none]
    rw[mW hu hi' hsz hlo hhi h0 h1 (by omega)];rfl
   .grind [RepA,fE]
   grind [AV.has]
  .rename_i ox
   obtain⟨hn,hb⟩:=hb;rcases dH h hb with⟨e1,_⟩|⟨_,km,im,e1,em,hb⟩
   .cases e1
   .cases e1
    rcases dH h hb with⟨rfl,_⟩|⟨oh,kh,ih,rfl,eh,hb⟩
    .exact absurd rfl hn
    .rcases dH h hb with⟨rfl,hb⟩|⟨ol,kl,il,rfl,el',hb⟩
     .obtain⟨_,rfl,rfl,hk⟩:=hb
      refine lg h hd hA (ad:=ad) ?_ hk;simp_all [execOp,zD4,zE4,Option.map_none,gf]
     .obtain⟨rfl,rfl,rfl,hk⟩:=hb
      refine lg h hd hA (ad:=ad) ?_ hk;simp_all [execOp,zD4,zE4,gf]
 .exact hK.elim
theorem j7{α:Type}{xs:List α}{i:Int}{K:α->Prop}(h:gt xs i K):0<=i/\∃x,xs[i.toNat]? =some x/\i.toNat<xs.length/\K x:=by
 obtain⟨h0,h⟩:=h;grind
theorem Jk{n:Nat}(h:ZF P t=some n):∃e i,P.underlying t=some (.array n e)/\P.info? e=some i/\i.size=1/\2<=n:=by
 grind [ZF]
theorem wB{K:R->Prop}(h:Rel w0 nA nt M G ι0 A w S ι a)(hd:∀d,o.dst=some d->d<nt)
  (ho:o.op=.indexAddr t x ix) (hK:bZ P t (Gl.BH S x) (Gl.BH S ix) λv=>K ⟨v,[],[]⟩):Does P w0 nA nt M G ι0 A k o w S a K:=by
 have hx:=h.opd x;have hi:=h.opd ix;have nx:=h.opd_named x;unfold bZ at hK;split at hK
 .rename_i ki i ei
  rw[ei]at hi;have hi:=fd hi;split at hK
  .rename_i fl xs e
   rw[e]at hx;obtain⟨ad,cap,hv,hl,hm,_,hc⟩:=jQ hx;obtain⟨ht,hg⟩:=hK;obtain⟨el,inf,zv,hu,hi',_,hsz,_⟩:=da ht;obtain⟨h0,y,hy,hlt,hk⟩:=j7 hg;rcases hc with rfl|⟨B,off,rfl,hF,hG,hc⟩
   .simp at hlt
   .refine ax h hd (val:=.pointer (some ⟨B,off+i.toNat,none⟩)) ?_ ?_ (by simp[AV.has]) hk
    .have hb:0<=i/\i<(xs.length:Int):=⟨h0,by omega⟩
     simp[execOp,ho,hv,hi,Instr.indexAt,asIntOf,zD2 hu,sizeOf,typeInfo,hi',hsz,hb,fE]
    grind [RepA,RepP,aY,RepC]
  .rename_i id off len e
   rw[e]at hx nx;obtain⟨ad,cap,hv,hl,hcap,hm,hc⟩:=cS hx;obtain⟨ht,h0,h1,hk⟩:=hK;obtain⟨el,inf,zv,hu,hi',_,hsz,_⟩:=da ht;rcases hc with hc|rfl
   .omega
   .refine ax h hd (val:=.pointer (some ⟨(ι id).B,(ι id).off+(off+i.toNat),none⟩)) ?_ ?_ ?_ hk
    .have hb:0<=i/\i<(len:Int):=⟨h0,h1⟩
     simp[execOp,ho,hv,hi,Instr.indexAt,asIntOf,zD2 hu,sizeOf,typeInfo,hi',hsz,hb,fE,zE9]
    .simp only[RepA]
    grind [AV.has]
  .rename_i id r off len e
   rw[e]at hx nx;obtain⟨hr,ad,cap,hv,hl,hcap,hm,hc⟩:=iQ hx;obtain⟨ht,h0,h1,hk⟩:=hK;obtain⟨el,inf,zv,hu,hi',_,hsz,_⟩:=da ht;rcases hc with hc|rfl
   .omega
   .refine ax h hd (val:=.pointer (some ⟨((ι id).sub r).B,((ι id).sub r).off+(off+i.toNat),none⟩)) ?_ ?_ ?_ hk
    .have hb:0<=i/\i<(len:Int):=⟨h0,h1⟩
     simp[execOp,ho,hv,hi,Instr.indexAt,asIntOf,zD2 hu,sizeOf,typeInfo,hi',hsz,hb,fE,zE9]
    .grind [RepA]
    grind [AV.has]
  .rename_i id off e
   rw[e]at hx nx;simp only[RepA]at hx;split at hK
   .rename_i n hn
    obtain⟨h0,h1,hk⟩:=hK;obtain⟨el,inf,hu,hi',hsz,h2⟩:=Jk hn;refine ax h hd (val:=.pointer (some ⟨(ι id).B,(ι id).off+(off+i.toNat),none⟩)) ?_ ?_ ?_ hk
    .have hb:0<=i/\i<(n:Int):=⟨h0,h1⟩
     simp[execOp,ho,hx,hi,Instr.indexAt,Instr.sureAddr,asIntOf,zD2 hu,sizeOf,typeInfo,hi',hsz,hb,fE,zE9]
    .simp only[RepA]
    grind [AV.has]
   .exact hK.elim
  .rename_i id len e
   rw[e]at hx nx;simp only[RepA]at hx;obtain⟨ht,h0,h1,hk⟩:=hK;obtain⟨el,inf,zv,hu,hi',_,hsz⟩:=mZ ht;refine ax h hd (val:=.pointer (some ⟨(ι id).B,(ι id).off+i.toNat*2,none⟩)) ?_ ?_ ?_ hk
   .have hb:0<=i/\i<(len:Int):=⟨h0,h1⟩
    simp[execOp,ho,hx,hi,Instr.indexAt,asIntOf,zD2 hu,sizeOf,typeInfo,hi',hsz,hb,fE]
   .simp only[RepA]
   grind [AV.has]
  .exact hK.elim
 .exact hK.elim
theorem Fk{K:R->Prop}(h:Rel w0 nA nt M G ι0 A w S ι a)(hd:∀d,o.dst=some d->d<nt)
  (ho:o.op=.index t x ix) (hK:oD P t (Gl.BH S x) (Gl.BH S ix) λv=>K ⟨v,[],[]⟩):Does P w0 nA nt M G ι0 A k o w S a K:=by
 have hx:=h.opd x;have hi:=h.opd ix;unfold oD at hK;split at hK
 .rename_i ki i ei
  rw[ei]at hi;have hi:=fd hi;split at hK
  .rename_i s e
   rw[e]at hx;have hx:=lC hx;obtain⟨ht,hg⟩:=hK;obtain⟨h0,b,hb,hlt,hk⟩:=j7 hg;refine ax h hd (val:=.int .u8 b.toNat) ?_ (by simp only[RepA,RepP]) (by simp[AV.has]) hk;have e2:(⟨s.toArray⟩:ByteArray)[i.toNat]? =some b:=by
    have hl2:i.toNat<(⟨s.toArray⟩:ByteArray).size:=by grind [ByteArray.size]
    have e3:(⟨s.toArray⟩:ByteArray)[i.toNat]? =some ((⟨s.toArray⟩:ByteArray)[i.toNat]'hl2):=getElem?_pos (⟨s.toArray⟩:ByteArray) i.toNat hl2;rw[e3];have e4:s[i.toNat]'hlt=b:=by grind
    exact zB5 some e4
   simp_all [execOp,Instr.index,asIntOf,zD2,jk]
  .exact hK.elim
 .exact hK.elim
end
section
variable {P:Program}{sg:FuncId->List Bool}{w0:World}{nA nt:Nat}{M G:Nat->Prop}{ι0:Nat->Loc}{A:Nat->Prop}{w:World}{S:St}{ι:Nat->Loc}{a:Act}
theorem iz{F:Nat->Prop}{B:Nat}:∀{xs:List PV} {o:Nat},RepC w F G B o xs->∃cs:List Value,RepL w F G xs cs/\cs.length=xs.length/\(∀(j:Nat) (v:Value),cs[j]? =some v->w.cell? ⟨B,o+j,none⟩=some v)/\∀v∈cs,v.oneCell'=true
 |[],o,_=>⟨[],by simp[RepL],rfl,λj v h=>by simp at h,λv h=>by simp at h⟩
 |x::xs,o,h=>by
  simp only[RepC]at h;obtain⟨⟨v,hv,h1,hx⟩,hr⟩:=h;obtain⟨cs,hl,hlen,hc,ho⟩:=iz hr;refine⟨v::cs,by grind [RepL],by simp[hlen],λj u hj=> ?_,λu hu=> ?_⟩
  .grind
  grind
theorem HeapOk.cells{h:Nat->Blk}(ok:HeapOk w z M G h ι){c:List PV}(hb:(∃m,h id=.live m c)\/∃m,h id=.froz m c)(hc:c≠[]):
  RepC w (Held h ι) G (ι id).B (ι id).off c:=by
 rcases hb with⟨m,hb⟩|⟨m,hb⟩
 .obtain⟨h1,_,h3⟩:=ok.live id m c hb
  rcases h3 with h3|⟨_,h3,_⟩
  .simp_all [absurd,zA4]
  .exact h3
 .obtain⟨h1,_,h3⟩:=ok.froz id m c hb
  grind
theorem HeapOk.deep{h:Nat->Blk}(ok:HeapOk w z M G h ι){cs:List DC}{rs:List (Option (List PV))}(hb:h id=.deep m cs rs):okB w (Held h ι) G (Org z M G) (.deep m cs rs) (ι id):=by
 have:=ok.ok id;rwa [hb]at this
theorem HeapOk.deepRow{h:Nat->Blk}(ok:HeapOk w z M G h ι){cs:List DC}{rs:List (Option (List PV))}(hb:h id=.deep m cs rs){c:List PV}(hr:rs[r]? =some (some c)):
  r<(ι id).n/\rowOk w (Held h ι) G (Org z M G m) ((ι id).sub r) c:=by
 obtain⟨h1,_,h3,_⟩:=ok.deep hb;grind
theorem rowOk.cells{l:Loc}{c:List PV}(h:rowOk w F G O l c)(hc:c≠[]):RepC w F G l.B l.off c/\l.cap≠0:=by
 obtain⟨h1,_,h3⟩:=h;grind [List.length_pos_iff]
theorem HeapOk.deepCell{h:Nat->Blk}(ok:HeapOk w z M G h ι){cs:List DC}{rs:List (Option (List PV))}(hb:h id=.deep m cs rs){x:DC}(hj:cs[j]? =some x):
  ∃v,w.cell? ⟨(ι id).B,(ι id).off+j,none⟩=some v/\v.oneCell'=true/\RepA w (Held h ι) G ι (x.av id rs) v:=by
 obtain⟨hn,⟨h1,h2,h3⟩,h4,_⟩:=ok.deep hb;have hlt:=(zB4.1 hj).1;rcases h3 with h3|⟨_,_,h3⟩
 .omega
 .obtain⟨v,hv,hv1,hx⟩:=h3 j x hj
  refine⟨v,hv,hv1, ?_⟩;cases x with
  |v x=>exact hx
  |row r=>
   simp only[DC.av];split
   .rename_i c hr
    obtain⟨a,rfl,ha⟩:=hx.2 c hr;have hrn:=(zB4.1 hr).1;obtain⟨g1,g2,_⟩:=h4 r c hr;grind [RepA]
   grind [RepA,RepP]
  |self o=>simp only[DC.av,RepA];exact hx
theorem DC.av_has{rs:List (Option (List PV))}{x:DC}(h:(x.av id rs).has i=true):i=id:=by
 cases x with
 |v x=>simp[DC.av,AV.has]at h
 |row r=>
  grind [DC.av,AV.has]
 |self o=>grind [DC.av,AV.has]
theorem DC.avs_has{id:Nat}{rs:List (Option (List PV))}:∀{xs:List DC} {i:Nat},AV.hasL (xs.map (DC.av id rs)) i=true->i=id
 |[],i,h=>by simp[AV.hasL]at h
 |x::xs,i,h=>by
  simp only[zC3,AV.hasL,zI8]at h;rcases h with h|h
  .exact DC.av_has h
  .exact DC.avs_has h
theorem HeapOk.deepCells{h:Nat->Blk}(ok:HeapOk w z M G h ι){cs:List DC}{rs:List (Option (List PV))}(hb:h id=.deep m cs rs)(off n:Nat)(hle:off+n<=cs.length):
  ∃vs:List Value,RepAL w (Held h ι) G ι (((cs.drop off).take n).map (DC.av id rs)) vs/\vs.length=n/\∀(j:Nat) (v:Value),vs[j]? =some v->w.cell? ⟨(ι id).B,(ι id).off+off+j,none⟩=some v:=by
 induction n generalizing off with
 |zero=>simp_all [RepAL]
 |succ n ih=>
  obtain⟨vs,h1,h2,h3⟩:=ih (off+1) (by omega);have hlt:off<cs.length:=by omega
  obtain⟨v,hv,_,hx⟩:=ok.deepCell hb (zA1 hlt);refine⟨v::vs, ?_,by simp[h2],λj u hj=> ?_⟩
  .grind [List.drop_eq_getElem_cons,RepAL]
  grind
theorem cN{n:Nat}(ht:pU P t=some (n,false)){B o:Nat}{v:Value}(hv:w.cell? ⟨B,o,none⟩=some v):(Instr.loadAt t (.pointer (some ⟨B,o,none⟩))).run P w=.ok v w:=by
 obtain⟨i,d,_,_,hu,h1,h2⟩:=uD ht;simp_all [Instr.loadAt,Instr.sureAddr,loadVar,pZ]
theorem eD{n:Nat}(ht:pU P t=some (n,true)){B o:Nat}{cs:List Value}(hl:cs.length=n)(hv:∀(j:Nat) (v:Value),cs[j]? =some v->w.cell? ⟨B,o+j,none⟩=some v):
  (Instr.loadAt t (.pointer (some ⟨B,o,none⟩))).run P w=.ok (.agg ⟨cs⟩) w:=by
 obtain⟨i,hi,hs,hu⟩:=y6 ht;have:=run_loadCells_list (P:=P) (w:=w) ⟨B,o,none⟩ cs (λj v hj=>by grind [fE]);simp_all [Instr.loadAt,Instr.sureAddr,loadVar,xw,sizeOf,typeInfo]
theorem IX{K:R->Prop}(h:Rel w0 nA nt M G ι0 A w S ι a)(hd:∀d,o.dst=some d->d<nt)
  (ho:o.op=.load t x) (hK:gq P t S.h (Gl.BH S x) K):Does P w0 nA nt M G ι0 A k o w S a K:=by
 have hx:=h.opd x;unfold gq at hK;split at hK
 .rename_i n ht
  obtain⟨_,hK⟩:=hK;split at hK
  .rename_i y ys e
   rw[e]at hx;simp only[RepA,RepP]at hx;obtain⟨B,off,hv,hF,hc⟩:=hx;simp only[RepC]at hc;obtain⟨⟨v,hcell,_,hy⟩,_⟩:=hc;refine ax h hd (v:=.p y) (val:=v) ?_ (by grind [RepA]) (by simp[AV.has]) hK;simp_all [execOp,cN]
  .rename_i id off e
   have nx:=h.opd_named x;rw[e]at hx nx;simp only[RepA]at hx;have key:∀c,((∃m,S.h id=.live m c)\/∃m,S.h id=.froz m c)->gt c off (λx=>K ⟨.p x,[],[id]⟩)->Does P w0 nA nt M G ι0 A k o w S a K:=by
    intro c hb hg;obtain⟨_,y,hy,hlt,hk⟩:=j7 hg;simp only[zC9]at hy hlt;have hc:=h.heap.cells hb (by grind);rw[aY]at hc;obtain⟨v,hcell,_,hy'⟩:=hc off y hy;refine ax h hd (v:=.p y) (val:=v) ?_ (by grind [RepA]) (by simp[AV.has]) hk;simp_all [execOp,cN]
   split at hK
   .grind
   .grind
   .rename_i m cs rs hb
    obtain⟨_,y,hy,hlt,hk⟩:=j7 hK;simp only[zC9]at hy;obtain⟨v,hcell,_,hr⟩:=h.heap.deepCell hb hy;refine ax h hd (v:=y.av id rs) (val:=v) ?_ hr (λi hi=>by grind [DC.av_has,AV.has]) hk;simp_all [execOp,cN]
   .exact hK.elim
  .rename_i id r off e
   rw[e]at hx;simp only[RepA]at hx;split at hK
   .rename_i m cs rs hb
    split at hK
    .rename_i c hr
     obtain⟨_,y,hy,hlt,hk⟩:=j7 hK;simp only[zC9]at hy hlt;obtain⟨_,hrow⟩:=h.heap.deepRow hb hr;obtain⟨hc,_⟩:=hrow.cells (by grind);rw[aY]at hc;obtain⟨v,hcell,_,hy'⟩:=hc off y hy;refine ax h hd (v:=.p y) (val:=v) ?_ (by grind [RepA]) (by simp[AV.has]) hk;simp_all [execOp,cN]
    .exact hK.elim
   .exact hK.elim
  .exact hK.elim
 .rename_i n ht
  split at hK
  .rename_i xs e
   rw[e]at hx;simp only[RepA,RepP]at hx;obtain⟨B,off,hv,hF,hc⟩:=hx;obtain⟨hle,hk⟩:=hK;obtain⟨cs,hl,hlen,hcells,_⟩:=iz (co hc n);refine ax h hd (v:=.p (.agg (xs.take n))) (val:=.agg ⟨cs⟩) ?_ (by grind [RepA,RepP]) (by simp[AV.has]) hk;simp[execOp,ho,hv,eD ht (cs:=cs) (by rw[hlen];simp;omega) hcells]
  .rename_i id off e
   have nx:=h.opd_named x;rw[e]at hx nx;simp only[RepA]at hx;have key:∀c,((∃m,S.h id=.live m c)\/∃m,S.h id=.froz m c)->off+n<=c.length->K ⟨.p (.agg ((c.drop off).take n)),[],[id]⟩->Does P w0 nA nt M G ι0 A k o w S a K:=by
    intro c hb hle hk;have hcs:∃cs:List Value,RepL w (Held S.h ι) G ((c.drop off).take n) cs/\cs.length=((c.drop off).take n).length/\(∀(j:Nat) (v:Value),cs[j]? =some v->w.cell? ⟨(ι id).B,(ι id).off+off+j,none⟩=some v):=by
     by_cases hn:c=[]
     .simp_all [RepL]
     .have hc:=h.heap.cells hb hn
      obtain⟨cs,h1,h2,h3,_⟩:=iz (co (bQ hc off) n);grind
    obtain⟨cs,hl,hlen,hcells⟩:=hcs;refine ax h hd (v:=.p (.agg ((c.drop off).take n))) (val:=.agg ⟨cs⟩) ?_ (by grind [RepA,RepP]) (by simp[AV.has]) hk;simp[execOp,ho,hx,eD ht (cs:=cs) (by rw[hlen];simp;omega) hcells]
   split at hK
   .grind
   .grind
   .rename_i m cs rs hb
    obtain⟨vs,hvs,hlen,hcells⟩:=h.heap.deepCells hb off n hK.1;refine ax h hd (v:=.agg (((cs.drop off).take n).map (DC.av id rs))) (val:=.agg ⟨vs⟩) ?_ (by grind [RepA]) (λi hi=>by grind [AV.has,DC.avs_has]) hK.2;simp[execOp,ho,hx,eD ht (cs:=vs) hlen hcells]
   .exact hK.elim
  .exact hK.elim
 .exact hK.elim
theorem yt{off n:Nat}(h:nc P t f=some (off,n,b)):∃fs x,P.underlying t=some (.struct fs)/\fs[f]? =some x/\x.offset=off/\pU P x.type=some (n,b):=by
 grind [nc]
theorem does_field{K:R->Prop}(h:Rel w0 nA nt M G ι0 A w S ι a)(hd:∀d,o.dst=some d->d<nt)(hA:∀x,x<256->¬A (k+x))
  (ho:o.op=.field t x f) (hK:qZ P t f (Gl.BH S x) λv=>qm k v K):Does P w0 nA nt M G ι0 A k o w S a K:=by
 have hx:=h.opd x;have nx:=h.opd_named x;unfold qZ at hK;split at hK
 .rename_i off ht
  obtain⟨fs,fld,hu,hf,rfl,hsz⟩:=yt ht;obtain⟨i,d,hi,_,hud,h1,h2⟩:=uD hsz;have run:∀(cs:List Value) (v:Value),a.eval x=.agg ⟨cs⟩->cs[fld.offset]? =some v->(execOp a.eval o).run P w=.ok (.value v) w:=by
   simp_all [execOp,Instr.field,zD2,asAgg,part,pZ]
  split at hK
  .rename_i xs e
   rw[e]at hx;simp only[RepA,RepP]at hx;obtain⟨cs,hv,hl⟩:=hx;obtain⟨_,y,hy,hlt,hk⟩:=j7 hK;simp only[zC9]at hy;obtain⟨v,hcv,hr⟩:=lm hl _ _ hy;exact oN h hd hA (run cs v hv hcv) (by grind [RepA]) (by simp[AV.has]) hk
  .rename_i xs e
   rw[e]at hx nx;simp only[RepA]at hx;obtain⟨cs,hv,hl⟩:=hx;unfold AV.nth at hK;split at hK
   .rename_i y hy
    obtain⟨v,hcv,hr⟩:=ks hl _ _ hy;refine oN h hd hA (run cs v hv hcv) hr (λj hj=>nx j ?_) hK;simp only[AV.has];exact hasL_mem hy hj
   .exact hK.elim
  .exact hK.elim
 .exact hK.elim
 where
 hasL_mem {xs:List AV} {i:Nat} {y:AV} {j:Nat} (hy:xs[i]? =some y) (hj:y.has j=true):AV.hasL xs j=true:=by
  induction xs generalizing i with
  |nil=>simp at hy
  |cons x xs ih=>
   grind [AV.hasL]
theorem hasL_mem{xs:List AV}{y:AV}(hy:xs[i]? =some y)(hj:y.has j=true):AV.hasL xs j=true:=does_field.hasL_mem hy hj
theorem wC{K:R->Prop}(h:Rel w0 nA nt M G ι0 A w S ι a)(hd:∀d,o.dst=some d->d<nt)
  (ho:o.op=.fieldAddr t x f) (hK:fk P t f (Gl.BH S x) λv=>K ⟨v,[],[]⟩):Does P w0 nA nt M G ι0 A k o w S a K:=by
 have hx:=h.opd x;have nx:=h.opd_named x;unfold fk at hK;split at hK
 .rename_i off n b ht
  obtain⟨hn,hK⟩:=hK;obtain⟨fs,fld,hu,hf,rfl,hsz⟩:=yt ht;have hsize:∃i,P.info? fld.type=some i/\i.size=n:=by
   cases b
   .grind [uD]
   grind [y6]
  obtain⟨i,hi,hs⟩:=hsize;have run:∀B off,a.eval x=.pointer (some ⟨B,off,none⟩)->(execOp a.eval o).run P w=.ok (.value (.pointer (some ⟨B,off+fld.offset,none⟩))) w:=by
   simp_all [execOp,Instr.fieldAt,Instr.sureAddr,zD2,fieldPlace,sizeOf,typeInfo,fE]
  split at hK
  .rename_i xs e
   rw[e]at hx;simp only[RepA,RepP]at hx;obtain⟨B,off,hv,hF,hc⟩:=hx;refine ax h hd (run B off hv) ?_ (by simp[AV.has]) hK;grind [RepA,RepP,bQ]
  .rename_i id off e
   rw[e]at hx nx;simp only[RepA]at hx;refine ax h hd (run _ _ hx) ?_ (λj hj=>nx j (by simpa[AV.has]using hj)) hK;grind [RepA]
  .exact hK.elim
 .exact hK.elim
theorem Ax{K:R->Prop}(h:Rel w0 nA nt M G ι0 A w S ι a)(hd:∀d,o.dst=some d->d<nt)(hA:∀x,x<256->¬A (k+x))
  (ho:o.op=.extract x i) (hK:match Gl.BH S x with| .tup xs=>AV.nth xs i λv=>qm k v K|_=>False):Does P w0 nA nt M G ι0 A k o w S a K:=by
 have hx:=h.opd x;have nx:=h.opd_named x;split at hK
 .rename_i xs e
  rw[e]at hx nx;simp only[RepA]at hx;obtain⟨cs,hv,hl⟩:=hx;unfold AV.nth at hK;split at hK
  .rename_i y hy
   obtain⟨v,hcv,hr⟩:=ks hl _ _ hy;refine oN h hd hA (val:=v) ?_ hr (λj hj=>nx j (by grind [AV.has,hasL_mem])) hK;simp_all [execOp,Instr.extract]
  .exact hK.elim
 .exact hK.elim
theorem xF{K:R->Prop}(h:Rel w0 nA nt M G ι0 A w S ι a)(hd:∀d,o.dst=some d->d<nt)
  (ho:o.op=.nilCheck x) (hK:match Gl.BH S x with| .ptr id off=>K ⟨.ptr id off,[],[]⟩| .p (.pc xs)=>K ⟨.p (.pc xs),[],[]⟩| .p (.fn f a b)=>K ⟨.p (.fn f a b),[],[]⟩| .fn f a b=>K ⟨.fn f a b,[],[]⟩|_=>False):
  Does P w0 nA nt M G ι0 A k o w S a K:=by
 have hx:=h.opd x;have nx:=h.opd_named x;split at hK
 .rename_i id off e
  rw[e]at hx nx;refine ax h hd (val:=a.eval x) ?_ hx nx hK;simp_all [RepA,execOp]
 .rename_i xs e
  rw[e]at hx nx;refine ax h hd (val:=a.eval x) ?_ hx nx hK;simp only[RepA,RepP]at hx;obtain⟨B,off,hv,_⟩:=hx;simp[execOp,ho,hv]
 .rename_i f fa fb e
  rw[e]at hx nx;refine ax h hd (val:=a.eval x) ?_ hx nx hK;simp only[RepA,RepP]at hx;obtain⟨b,c,hv,_⟩:=hx;simp[execOp,ho,hv]
 .rename_i f fa fb e
  rw[e]at hx nx;refine ax h hd (val:=a.eval x) ?_ hx nx hK;simp only[RepA]at hx;obtain⟨b,c,hv,_⟩:=hx;simp[execOp,ho,hv]
 .exact hK.elim
theorem Rel.opds(h:Rel w0 nA nt M G ι0 A w S ι a)(xs:List Operand):RepAL w (Held S.h ι) G ι (xs.map (Gl.BH S)) (xs.map a.eval):=tH h.opd xs
theorem Rel.opds_named(h:Rel w0 nA nt M G ι0 A w S ι a)(xs:List Operand):∀i,AV.hasL (xs.map (Gl.BH S)) i=true->A i:=by
 intro i hi
 induction xs with
 |nil=>simp[AV.hasL]at hi
 |cons x xs ih=>
  simp only[zC3,AV.hasL,zI8]at hi;rcases hi with hi|hi
  .exact h.opd_named x i hi
  .exact ih hi
theorem xG{K:R->Prop}(h:Rel w0 nA nt M G ι0 A w S ι a)(hd:∀d,o.dst=some d->d<nt){f:FuncId}{first caps:Array Operand}
  (ho:o.op=.makeFunc (.func f) first caps) (hK:K ⟨.fn f (first.toList.map (Gl.BH S)) (caps.toList.map (Gl.BH S)),[],[]⟩):Does P w0 nA nt M G ι0 A k o w S a K:=by
 refine ax h hd (val:=.func (.func f) (first.map a.eval) (caps.map a.eval)) ?_ ?_ ?_ hK
 .simp_all [execOp,Instr.makeFunc]
 .simp only[RepA]
  refine⟨first.toList.map a.eval,caps.toList.map a.eval, ?_,h.opds _,h.opds _⟩;congr 1<;>grind
 .intro i hi
  simp only[AV.has,zI8]at hi;rcases hi with hi|hi
  .exact h.opds_named _ i hi
  .exact h.opds_named _ i hi
theorem NY{K:R->Prop}(h:Rel w0 nA nt M G ι0 A w S ι a)(hd:∀d,o.dst=some d->d<nt)
  (ho:o.op=.call {callee:=.builtin .len,args:=⟨[x]⟩,argTypes:=⟨[t]⟩}) (hK:v8 P t (Gl.BH S x) λv=>K ⟨v,[],[]⟩):Does P w0 nA nt M G ι0 A k o w S a K:=by
 have hx:=h.opd x;unfold v8 at hK;split at hK
 .rename_i s e
  rw[e]at hx;have hx:=lC hx;refine ax h hd (val:=.int .i64 s.length) ?_ (by simp only[RepA,RepP]) (by simp[AV.has]) hK.2;have hsz:(⟨s.toArray⟩:ByteArray).size=s.length:=by simp[ByteArray.size]
  simp[execOp,ho,resolve,invoke,builtin,hx,Builtin.len_,zD2 (jk hK.1),goInt,hsz]
 .rename_i fl xs e
  rw[e]at hx;obtain⟨ad,cap,hv,_⟩:=jQ hx;obtain⟨el,inf,zv,hu,_⟩:=da hK.1;refine ax h hd (val:=.int .i64 xs.length) ?_ (by simp only[RepA,RepP]) (by simp[AV.has]) hK.2;simp[execOp,ho,resolve,invoke,builtin,hv,Builtin.len_,zD2 hu,goInt]
 .rename_i id off len e
  rw[e]at hx;obtain⟨ad,cap,hv,_⟩:=cS hx;obtain⟨el,inf,zv,hu,_⟩:=da hK.1;refine ax h hd (val:=.int .i64 len) ?_ (by simp only[RepA,RepP]) (by simp[AV.has]) hK.2;simp[execOp,ho,resolve,invoke,builtin,hv,Builtin.len_,zD2 hu,goInt]
 .rename_i id r off len e
  rw[e]at hx;obtain⟨_,ad,cap,hv,_⟩:=iQ hx;obtain⟨el,inf,zv,hu,_⟩:=da hK.1;refine ax h hd (val:=.int .i64 len) ?_ (by simp only[RepA,RepP]) (by simp[AV.has]) hK.2;simp[execOp,ho,resolve,invoke,builtin,hv,Builtin.len_,zD2 hu,goInt]
 .rename_i id len e
  rw[e]at hx;simp only[RepA]at hx;obtain⟨el,inf,zv,hu,_⟩:=mZ hK.1;refine ax h hd (val:=.int .i64 len) ?_ (by simp only[RepA,RepP]) (by simp[AV.has]) hK.2;simp[execOp,ho,resolve,invoke,builtin,hx,Builtin.len_,zD2 hu,goInt]
 .exact hK.elim
theorem NZ{K:R->Prop}(h:Rel w0 nA nt M G ι0 A w S ι a)(hd:∀d,o.dst=some d->d<nt)
  (ho:o.op=.call {callee:=.builtin .cap,args:=⟨[x]⟩,argTypes:=⟨[t]⟩}) (hK:OB P t (Gl.BH S x) λv=>K ⟨v,[],[]⟩):Does P w0 nA nt M G ι0 A k o w S a K:=by
 have hx:=h.opd x;unfold OB at hK;split at hK
 .rename_i e
  rw[e]at hx;simp only[RepA,RepP]at hx;obtain⟨ad,cap,hv,_,_,hown,_⟩:=hx;obtain⟨_,rfl,rfl⟩:=hown (by first|rfl|trivial);obtain⟨el,inf,zv,hu,_⟩:=da hK.1;refine ax h hd (val:=.int .i64 0) ?_ (by simp only[RepA,RepP]) (by simp[AV.has]) hK.2;simp[execOp,ho,resolve,invoke,builtin,hv,Builtin.cap_,zD2 hu,goInt]
 .exact hK.elim
theorem Hk{K:R->Prop}(h:Rel w0 nA nt M G ι0 A w S ι a)(hd:∀d,o.dst=some d->d<nt){ts:Array TypeId}
  (ho:o.op=.call {callee:=.builtin (if b then .max else .min),args:=⟨[x,y]⟩,argTypes:=ts}) (hK:Jp b (Gl.BH S x) (Gl.BH S y) λv=>K ⟨v,[],[]⟩):Does P w0 nA nt M G ι0 A k o w S a K:=by
 have hx:=h.opd x;have hy:=h.opd y;unfold Jp at hK;split at hK
 .rename_i k1 i k2 j e1 e2
  rw[e1]at hx;rw[e2]at hy;have hx:=fd hx;have hy:=fd hy;obtain⟨rfl,hk⟩:=hK;refine ax h hd (val:=.int k1 (if b then(if i<j then j else i)else(if j<i then j else i))) ?_ (by simp only[RepA,RepP]) (by simp[AV.has]) hk;cases b
  .simp only[Bool.false_eq_true,zE3]at ho |-
   simp only[execOp,ho,resolve,invoke,builtin,zD4,zI2,zD6,List.map_toArray,zC3,zE8,hx,hy];rw[run_min_int2];rfl
  .simp only[zH3]at ho |-
   simp only[execOp,ho,resolve,invoke,builtin,zD4,zI2,zD6,List.map_toArray,zC3,zE8,hx,hy];rw[run_max_int2];rfl
 .exact hK.elim
end
theorem bY(P:Program)(g o:Nat)(t:TypeId)(lo hi:Nat):∀(vs:List Value) (i:Nat) (cur:Array Value) (w:World),w.heap[g]? =some (.cells cur t (lo,hi))->(hi<=lo\/cur.size<=lo)->o+i+vs.length<=cur.size->(∀v∈vs,v.oneCell'=true)->
  (storeCells ⟨g,o,none⟩ vs i).run P w=.ok () (w.setRow g (cur.toList.take (o+i)++vs++cur.toList.drop (o+i+vs.length)).toArray)
 |[],i,cur,w,hg,_,_,_=>by
  simp only[storeCells,zC0,List.length_nil,Nat.add_zero,zF0,Array.toArray_toList];rw[setRow_self w g cur t (lo,hi) hg];rfl
 |v::rest,i,cur,w,hg,hfr,hl,h1=>by
  have hi':o+i<cur.size:=by simp at hl;omega
  have hcell:w.cell? ⟨g,o+i,none⟩=some cur[o+i]:=by grind [World.cell?]
  have hfro:w.frozen? ⟨g,o+i,none⟩=false:=by grind [World.frozen?]
  have hst:(store ((⟨g,o,none⟩:Addr).add i) v).run P w=.ok () (w.setRow g (cur.setIfInBounds (o+i) v)):=by
   grind [fE,run_store,setCell_eq_setRow]
  have ih:=bY P g o t lo hi rest (i+1) (cur.setIfInBounds (o+i) v) (w.setRow g (cur.setIfInBounds (o+i) v)) (setRow_heap w g cur _ t _ hg) (by simpa using hfr) (by simp at hl |-;omega) (λx hx=>h1 x (by simp[hx]));grind [storeCells,zD4,zD6,setRow_setRow,list_seg_step]
theorem Wrote.setRow{g:Nat}{fr:Nat×Nat}(hg:w.heap[g]? =some (.cells cur t fr))(hs:cs'.size=cur.size):Wrote w (w.setRow g cs') g cs':=
 ⟨by simp[World.setRow],⟨cur,t,fr,hg,setRow_heap w g cur cs' t fr hg,hs⟩,λk hk=>setRow_other w g k cs' hk,rfl,rfl,rfl,rfl⟩
section
variable {P:Program}{sg:FuncId->List Bool}{w0:World}{nA nt:Nat}{M G:Nat->Prop}{ι0:Nat->Loc}{A:Nat->Prop}{w w':World}{S:St}{ι:Nat->Loc}{a:Act}
theorem Wrote.keep{B:Nat}(hw:Wrote w w' B cs')(hB:w0.heap.size<=B\/M B)(hk:Keep w0 w M):Keep w0 w' M:=
 ⟨hw.os.trans hk.os,hw.tape.trans hk.tape,hw.output.trans hk.output,by rw[hw.size];exact hk.size,λk h1 h2=>by
  have hne:k≠B:=by
   grind
  rw[hw.other k hne];exact hk.block k h1 h2,λq=>by rw[hw.drawn];exact hk.drawn q⟩
theorem Rel.stepK(h:Rel w0 nA nt M G ι0 A w S ι a){h':Nat->Blk}{ι':Nat->Loc}(hA:∀i,A i->A' i)(hk:Keep w0 w' M)(ok:HeapOk w' w0.heap.size M G h' ι')
  (st:Stays w w' (Held S.h ι) (Held h' ι')) (hι:∀i,A i->LocEq (ι i) (ι' i)) (hdead:∀i,¬A' i->h' i=.dead):Rel w0 nA nt M G ι0 A' w' {S with h:=h'} ι' a:=
 ⟨hk,ok,λt=>RepA.tr st (λ_ _ _ h=>h) _ _ (λi hi=>hι i (h.named t i hi)) (h.slots t),hdead,λt i hi=>hA i (h.named t i hi),
  λj hj=>(h.loc j hj).trans (hι j (h.args j hj)),λj hj=>hA j (h.args j hj),h.new,h.size,h.defers⟩
theorem fq(h:Nat->Blk)(k:Nat)(b:Blk):hwsH h [(k,b)]=updH h k b:=rfl
theorem Rel.new_block(h:Rel w0 nA nt M G ι0 A w S ι a)(hk:¬A k)(hA:∀i,A i->A' i)(hAk:A' k){ws:List (Nat×Blk)}(hf:FrzL S.h ws)(hp:Pushed w w' (.cells cs E (lo,hi)))
  (hfr:hi<=lo\/SB=true/\cs.size<=lo) (m:Bool) (xs:List PV) (cap:Nat) (hcap:cap<=maxLen) (hc:cap<=cs.size) (hx:xs.length<=cap)
  (hxs:∀(j:Nat) (x:PV),xs[j]? =some x->∃v,cs[j]? =some v/\v.oneCell'=true/\RepP w (Held (hwsH S.h ws) ι) G x v):
  Rel w0 nA nt M G ι0 A' w' {S with h:=hwsH S.h (ws++[(k,.live m xs)])} (aE ι k ⟨w.heap.size,0,cap,0,bC⟩) a:=by
 have h1:=h.frz hf.frz;have hkd:hwsH S.h ws k=.dead:=h1.alloc k hk;have ok:=h1.heap.new hkd hp h.keep.size (h.new _ h.keep.size) hfr m xs cap hcap hc hx hxs;have st:=Stays.new (w:=w) (w':=w') (ι:=ι) hp (h:=hwsH S.h ws) (k:=k) (m:=m) (xs:=xs) (l:=⟨w.heap.size,0,cap,0,bC⟩) rfl;have h2:=h1.step (A':=A') hA (hp.keep M) ok st (λi hi=>by
  grind [aE,LocEq.refl]) (λi hi=>by
  have hne:i≠k:=λe=>hi (e▸hAk);simp only[updH,hne,zE3];exact h1.alloc i λhA'=>hi (hA i hA'))
 rw[bO];exact h2
theorem mK{K:R->Prop}(h:Rel w0 nA nt M G ι0 A w S ι a)(hd:∀d,o.dst=some d->d<nt)(hA:∀x,x<256->¬A (k+x)){ws:List (Nat×Blk)}(hf:FrzL S.h ws)
  {cs:Array Value} {E:TypeId} {lo hi:Nat} (hp:Pushed w w' (.cells cs E (lo,hi))) (hfr:hi<=lo\/SB=true/\cs.size<=lo) (m:Bool) (xs:List PV) (cap:Nat) (hcap:cap<=maxLen) (hc:cap<=cs.size) (hx:xs.length<=cap)
  (hxs:∀(j:Nat) (x:PV),xs[j]? =some x->∃v,cs[j]? =some v/\v.oneCell'=true/\RepP w (Held (hwsH S.h ws) ι) G x v) {v:AV} {val:Value} {rd:List Nat}
  (hr:(execOp a.eval o).run P w=.ok (.value val) w')
  (hv:(∃len,v=.ref k 0 len/\len<=cap/\val=.slice (some ⟨w.heap.size,0,none⟩) len cap)\/(v=.ptr k 0/\val=.pointer (some ⟨w.heap.size,0,none⟩)))
  (hK:K ⟨v,ws++[(k,.live m xs)],rd⟩):Does P w0 nA nt M G ι0 A k o w S a K:=by
 intro Kc Qc next
 have hk0:¬A k:=by simpa using hA 0 (by omega)
 have h1:=h.new_block (k:=k) (A':=gh A k) hk0 (λi hi=>.inl hi) (.inr ⟨by omega,by omega⟩) hf hp hfr m xs cap hcap hc hx hxs;refine cC hr (next _ _ _ (aE ι k ⟨w.heap.size,0,cap,0,bC⟩) hK ?_);rw[bV];refine h1.put o.dst hd ?_ ?_
 .grind [RepA,aE]
 .rcases hv with⟨len,rfl,_,_⟩|⟨rfl,_⟩<;>
  .intro i hi
   simp[AV.has]at hi;exact .inr ⟨by omega,by omega⟩
theorem IW{K:R->Prop}(h:Rel w0 nA nt M G ι0 A w S ι a)(hd:∀d,o.dst=some d->d<nt)(hA:∀x,x<256->¬A (k+x)){ws:List (Nat×Blk)}(hf:FrzL S.h ws)
  {cs:Array Value} {E:TypeId} {lo hi:Nat} (hp:Pushed w w' (.cells cs E (lo,hi))) (hfr:hi<=lo\/SB=true/\cs.size<=lo) (m:Bool) (xs:List PV) (cap:Nat) (hcap:cap<=maxLen) (hc:cap<=cs.size) (hx:xs.length<=cap)
  (hxs:∀(j:Nat) (x:PV),xs[j]? =some x->∃v,cs[j]? =some v/\v.oneCell'=true/\RepP w (Held (hwsH S.h ws) ι) G x v) {n:Nat} {val:Value} {rd:List Nat}
  (hr:(execOp a.eval o).run P w=.ok (.value val) w') (hv:val=.slice (some ⟨w.heap.size,0,none⟩) n n)
  (hK:K ⟨.prs k n,ws++[(k,.live m xs)],rd⟩):Does P w0 nA nt M G ι0 A k o w S a K:=by
 intro Kc Qc next
 have hk0:¬A k:=by simpa using hA 0 (by omega)
 have h1:=h.new_block (k:=k) (A':=gh A k) hk0 (λi hi=>.inl hi) (.inr ⟨by omega,by omega⟩) hf hp hfr m xs cap hcap hc hx hxs;refine cC hr (next _ _ _ (aE ι k ⟨w.heap.size,0,cap,0,bC⟩) hK ?_);rw[bV];refine h1.put o.dst hd ?_ ?_
 .grind [RepA,aE]
 .intro i hi
  simp[AV.has]at hi;exact .inr ⟨by omega,by omega⟩
theorem iy{z:Value}(h:z.cells.size=1)(h1:z.oneCell'=true):z.cells= #[z]:=by
 cases z<;>first|rfl|simp[Value.oneCell']at h1
theorem wA{K:R->Prop}(h:Rel w0 nA nt M G ι0 A w S ι a)(hd:∀d,o.dst=some d->d<nt)(hA:∀x,x<256->¬A (k+x)){l:Operand}
  (ho:o.op=.makeSlice t l c) (hK:tO P t k (Gl.BH S l) (Gl.BH S c) K):Does P w0 nA nt M G ι0 A k o w S a K:=by
 have hl:=h.opd l;have hc:=h.opd c;unfold tO at hK;split at hK
 .rename_i k1 i k2 j e1 e2
  rw[e1]at hl;rw[e2]at hc;have hl:=fd hl;have hc:=fd hc;obtain⟨h0,h1,h2,hK⟩:=hK;split at hK
  .rename_i b z hs
   obtain⟨e,inf,zv,hu,hi,hz,hsz,hzs,hz1,hb,hb64,rfl⟩:=rE hs;obtain⟨hzc,hk⟩:=hK;have hz':=iy hzs hz1;have hm:j.toNat<=maxLen:=by grind [maxLen]
   have hbytes:(inf.bytes:Int)*j<=281474976710656:=by
    have h64:(inf.bytes:Int)<=64:=by omega
    have h3:(inf.bytes:Int)*j<=64*1099511627776:=Int.mul_le_mul h64 h2 (by omega) (by omega);omega
   have hr:=run_make (P:=P) w t e inf zv hu hi hz k1 k2 i j h0 h1 hbytes (by omega);refine mK h hd hA (ws:=[]) (λp hp=>by simp at hp) (Pushed.alloc w (.cells (madeCells zv.cells (j.toNat*inf.size)) e)) (lo:=0) (hi:=0) (.inl (zB1 _)) false (List.replicate i.toNat (bM zv).cell) j.toNat hm ?_ ?_ ?_ (v:=.ref k 0 i.toNat) ?_ (.inl ⟨i.toNat,rfl,by omega,rfl⟩) hk
   .grind [size_madeCells]
   .simp;omega
   .grind [go,gj,madeCells]
   simp_all [execOp,zD4]
  .exact hK.elim
 .exact hK.elim
theorem ww:∀(vs:List Value) (start:Nat) (cells:Array Value),(∀v∈vs,v.oneCell'=true)->start+vs.length<=cells.size->
  Instr.fill (λi=>some (i*1,1)) cells ((vs.zipIdx start).map λp=>(p.2,p.1))=some (cells.toList.take start++vs++cells.toList.drop (start+vs.length)).toArray
 |[],start,cells,_,_=>by simp[Instr.fill]
 |v::vs,start,cells,h1,hl=>by
  have hv:=h1 v (by simp);have hc:v.cells= #[v]:=by cases v<;>first|rfl|simp[Value.oneCell']at hv
  have ih:=ww vs (start+1) (cells.setIfInBounds start v) (λu hu=>h1 u (by simp[hu])) (by simp at hl |-;omega);have hb:¬(start+1>cells.size):=by simp at hl;omega
  have hz:(#[v]:Array Value).zipIdx.foldl (λcs p=>cs.setIfInBounds (start*1+p.2) p.1) cells=cells.setIfInBounds start v:=by simp
  simp only[List.zipIdx_cons,zC3,Instr.fill,hc];grind [list_seg_step]
end
section
variable {P:Program}{sg:FuncId->List Bool}{w0:World}{nA nt:Nat}{M G:Nat->Prop}{ι0:Nat->Loc}{A:Nat->Prop}{w w':World}{S:St}{ι:Nat->Loc}{a:Act}
theorem or{α:Type}(l:List (Nat×α))(n:Nat)(h:l.map (·.1)=List.range n):l=((l.map (·.2)).zipIdx).map (λp=>(p.2,p.1)):=by
 have hn:l.length=n:=by have:=zB5 List.length h;simpa using this
 apply zI7;intro j;simp only[zA5,List.getElem?_zipIdx];cases hj:l[j]? with
 |none=>simp
 |some p=>
  have hlt:=(zB4.1 hj).1;have h1:(l.map (·.1))[j]? =some p.1:=by simp[hj]
  grind
theorem om{e:TypeId}{i:TypeInfo}{z:Value}(hu:P.underlying t=some (.slice e))(hi:P.info? e=some i)(hz:i.zero=some z)(hs:i.size=1)(hz1:z.cells= #[z]){n:Nat}(hn:vals.length=n)(hb:n<=1000000)(h1:∀v∈vals,v.oneCell'=true)
  {parts:Array (Nat×Value)} (hp:parts.toList=vals.zipIdx.map λp=>(p.2,p.1)):(Instr.buildSlice t n parts).run P w=.ok (.slice (some ⟨w.heap.size,0,none⟩) n n) (w.alloc (.cells vals.toArray e)):=by
 have hbig:¬(16777216<n):=by omega
 have hf:∀cells:Array Value,cells.size=n->Instr.fill (λi=>some (i*1,1)) cells parts.toList=some vals.toArray:=by
  grind [ww]
 unfold Instr.buildSlice;by_cases h0:n=0
 .simp_all [zD2,sizeOf,typeInfo,Array.range_zero',newRow]
 .have hf1:=hf ((Array.range n).map (#[z][· % (#[z]:Array Value).size]!)) (by simp)
  simp only[Nat.mul_one]at hf1;simp only[zD4,zD2 hu,zD6,sizeOf,typeInfo,run_program,hi,zI2,hs,Nat.mul_one,zeroValue];simp_all [zD4,zI2,zD6,run_program,newRow]
theorem CL:∀(vs:List Value) (off k:Nat) (cells:Array Value),off+k+vs.length<=cells.size->
  (vs.zipIdx k).foldl (λcs (p:Value×Nat)=>cs.setIfInBounds (off+p.2) p.1) cells=(cells.toList.take (off+k)++vs++cells.toList.drop (off+k+vs.length)).toArray
 |[],off,k,cells,_=>by simp
 |v::vs,off,k,cells,h=>by
  rw[List.zipIdx_cons,List.foldl_cons,CL vs off (k+1) _ (by simp at h |-;omega)];congr 1;grind [List.take_add_one,List.take_set_of_le,List.drop_set_of_lt]
theorem CR:∀(vs:List Value) (start:Nat) (cells:Array Value),(∀v∈vs,v.cells.size=2)->(start+vs.length)*2<=cells.size->
  Instr.fill (λi=>some (i*2,2)) cells ((vs.zipIdx start).map λp=>(p.2,p.1))=some (cells.toList.take (start*2)++vs.flatMap (λv=>v.cells.toList)++cells.toList.drop ((start+vs.length)*2)).toArray
 |[],start,cells,_,_=>by simp[Instr.fill]
 |v::vs,start,cells,h1,hl=>by
  have hv:=h1 v (by simp);have hvl:v.cells.toList.length=2:=by simpa using hv
  simp only[zC1]at hl;have hf:v.cells.zipIdx.foldl (λcs (p:Value×Nat)=>cs.setIfInBounds (start*2+p.2) p.1) cells=(cells.toList.take (start*2)++v.cells.toList++cells.toList.drop (start*2+2)).toArray:=by
   have:=CL v.cells.toList (start*2) 0 cells (by omega);grind [Array.toList_zipIdx]
  have hs:((cells.toList.take (start*2)++v.cells.toList++cells.toList.drop (start*2+2)).toArray).size=cells.size:=by simp;omega
  have ih:=CR vs (start+1) (cells.toList.take (start*2)++v.cells.toList++cells.toList.drop (start*2+2)).toArray (λu hu=>h1 u (by simp[hu])) (by rw[hs];omega);simp only[List.zipIdx_cons,zC3,Instr.fill];rw[zA8 (by simp[hv];omega)];have hf':Array.foldl (λcs x=>cs.setIfInBounds (start*2+x.snd) x.fst) cells v.cells.zipIdx=(cells.toList.take (start*2)++v.cells.toList++cells.toList.drop (start*2+2)).toArray:=hf;rw[hf',ih];congr 2;have el:(cells.toList.take (start*2)).length=start*2:=by simp;omega
  have e1:(cells.toList.take (start*2)++v.cells.toList++cells.toList.drop (start*2+2)).take ((start+1)*2)=cells.toList.take (start*2)++v.cells.toList:=by
   grind
  have e2:(cells.toList.take (start*2)++v.cells.toList++cells.toList.drop (start*2+2)).drop ((start+1+vs.length)*2)=cells.toList.drop ((start+(vs.length+1))*2):=by
   rw[List.drop_append,zA6 (by simp;omega),zE1,zI4];congr 1;simp;omega
  simp_all [List.flatMap_cons,zC1]
theorem ui{e:TypeId}{i:TypeInfo}{z:Value}(hu:P.underlying t=some (.slice e))(hi:P.info? e=some i)(hz:i.zero=some z)(hs:i.size=2){n:Nat}(hn:vals.length=n)(h0:n≠0)(hb:n<=1000000)(h1:∀v∈vals,v.cells.size=2)
  {parts:Array (Nat×Value)} (hp:parts.toList=vals.zipIdx.map λp=>(p.2,p.1)):(Instr.buildSlice t n parts).run P w=.ok (.slice (some ⟨w.heap.size,0,none⟩) n n) (w.alloc (.cells (vals.flatMap λv=>v.cells.toList).toArray e)):=by
 have hbig:¬(16777216<n*2):=by omega
 have hf:∀cells:Array Value,cells.size=n*2->Instr.fill (λi=>some (i*2,2)) cells parts.toList=some (vals.flatMap λv=>v.cells.toList).toArray:=by
  grind [CR,List.drop_eq_nil_of_le]
 unfold Instr.buildSlice;have hf1:=hf ((Array.range (n*2)).map (z.cells[· % z.cells.size]!)) (by simp);simp only[zD4,zD2 hu,zD6,sizeOf,typeInfo,run_program,hi,zI2,hs,zeroValue];simp_all [zD4,zI2,zD6,run_program,newRow]
theorem xV{F:Nat->Prop}:∀{vs:List AV} {us:List Value} {K:List PV->Prop},vs.length=us.length->(∀(j:Nat) (v:AV) (u:Value),vs[j]? =some v->us[j]? =some u->RepA w F G ι v u)->HS vs K->
  ∃xs,K xs/\(∀u∈us,u.cells.size=2)/\xs.length=us.length*2/\∀(j:Nat) (x:PV),xs[j]? =some x->∃v,(us.flatMap λu=>u.cells.toList)[j]? =some v/\v.oneCell'=true/\RepP w F G x v
 |[],[],K,_,_,hK=>⟨[],hK,by simp,rfl,by simp⟩
 |[],_::_,_,hl,_,_=>by simp at hl
 |_::_,[],_,hl,_,_=>by simp at hl
 |v::vs,u::us,K,hl,hr,hK=>by
  have h0:=hr 0 v u rfl rfl;simp only[HS,prC]at hK;split at hK
  .rename_i x y
   obtain⟨c1,c2,hK⟩:=hK;simp only[RepA,RepAL]at h0;obtain⟨cs,rfl,v1,r1,rfl,g1,v2,r2,rfl,g2,rfl⟩:=h0;obtain⟨xs,k1,k2,k3,k4⟩:=xV (vs:=vs) (us:=us) (by simpa using hl) (λj v u a b=>hr (j+1) v u (by simpa using a) (by simpa using b)) hK;refine⟨x::y::xs,k1,λq hq=> ?_,by simp[k3];omega,λj z hj=> ?_⟩
   .rcases zD7.1 hq with rfl|hq
    .rfl
    .exact k2 q hq
   .rw[List.flatMap_cons,show(Value.agg ⟨[v1,v2]⟩).cells.toList=[v1,v2]from rfl]
    grind [bN]
  .exact hK.elim
theorem wF{K:R->Prop}(h:Rel w0 nA nt M G ι0 A w S ι a)(hd:∀d,o.dst=some d->d<nt)(hA:∀x,x<256->¬A (k+x)){n:Nat}{parts:Array (Nat×Operand)}
  (ho:o.op=.buildSlice t n parts) (ht:nJ P t=true) (hp:gU n parts=true) (h0:1<=n) (hn:n<=1000000) (hK:HS (parts.toList.map λp=>Gl.BH S p.2) λxs=>K ⟨.prs k n,[(k,.live false xs)],[]⟩):Does P w0 nA nt M G ι0 A k o w S a K:=by
 obtain⟨e,inf,zv,hu,hi,hz,hsz⟩:=mZ ht;have hpl:parts.toList.map (·.1)=List.range n:=by grind [gU]
 have hpn:parts.toList.length=n:=by have:=zB5 List.length hpl;simpa using this
 let vals:List Value:=parts.toList.map λp=>a.eval p.2;have hvn:vals.length=n:=by grind
 obtain⟨xs,k1,k2,k3,k4⟩:=xV (us:=vals) (w:=w) (F:=Held S.h ι) (G:=G) (ι:=ι) (by simp[vals]) (λj v u e1 e2=>by
  rw[zA5,zG2]at e1 e2;obtain⟨p,hp1,rfl⟩:=e1;obtain⟨q,hq1,rfl⟩:=e2;rw[hp1]at hq1;cases hq1
  exact h.opd p.2) hK
 have hr:=ui (P:=P) (w:=w) hu hi hz hsz hvn (by omega) hn k2 (parts:=parts.map λp=>(p.1,a.eval p.2)) (by
  simp only[Array.toList_map];rw[or (parts.toList.map λp=>(p.1,a.eval p.2)) n (by grind [Function.comp_def])];simp[vals,Function.comp_def])
 have hcl:(vals.flatMap λv=>v.cells.toList).length=n*2:=by
  have key:∀l:List Value,(∀u∈l,u.cells.size=2)->(l.flatMap λv=>v.cells.toList).length=l.length*2:=λl=>by
   induction l with
   |nil=>intro _;rfl
   |cons u l ih=>grind
  rw[key vals k2,hvn]
 refine IW h hd hA (ws:=[]) (by simp[FrzL]) (Pushed.alloc w (.cells (vals.flatMap λv=>v.cells.toList).toArray e)) (lo:=0) (hi:=0) (.inl (zB1 _)) false xs (n*2) (by grind [maxLen]) (by simp[hcl]) (by omega) ?_ (n:=n) ?_ rfl k1
 .intro j x hx
  obtain⟨v,e1,e2,e3⟩:=k4 j x hx;exact⟨v,by simpa using e1,e2,e3⟩
 simp_all [execOp,zD4]
theorem ux{K:R->Prop}(h:Rel w0 nA nt M G ι0 A w S ι a)(hd:∀d,o.dst=some d->d<nt)(hA:∀x,x<256->¬A (k+x)){n:Nat}{parts:Array (Nat×Operand)}
  (ho:o.op=.buildSlice t n parts) (hK:bP P t n parts k (Gl.BH S) S.h K):Does P w0 nA nt M G ι0 A k o w S a K:=by
 unfold bP at hK;split at hK
 .grind [wF]
 obtain⟨ht,hp,hn,hK⟩:=hK;obtain⟨e,inf,zv,hu,hi,hz,hsz,hzs,hz1,hb⟩:=da ht;obtain⟨xs,ws,rd,hk,hf,hlen,hok,_,hrep⟩:=qC hK;have hpl:parts.toList.map (·.1)=List.range n:=by grind [gU]
 have hpn:parts.toList.length=n:=by have:=zB5 List.length hpl;simpa using this
 have rep:=λ(j:Nat) (p:Nat×Operand) (x:PV) (hj:parts.toList[j]? =some p) (hx:xs[j]? =some x)=>
  hrep h.heap hf.frz (sm hf) j (BH S p.2) (a.eval p.2) x (by simp[hj]) hx (h.opd p.2)
 have hxn:xs.length=n:=by grind
 let vals:List Value:=parts.toList.map λp=>a.eval p.2;have hvn:vals.length=n:=by grind
 have h1:∀v∈vals,v.oneCell'=true:=by
  intro v hv;obtain⟨j,hj⟩:=List.mem_iff_getElem?.1 hv;simp only[vals,zA5,zG2]at hj;obtain⟨p,hp1,hp2⟩:=hj;have hjlt:j<xs.length:=by grind
  have hx:=zA1 hjlt;grind [bN,List.getElem_mem]
 have hr:=om (P:=P) (w:=w) hu hi hz hsz (iy hzs hz1) hvn hn h1 (parts:=parts.map λp=>(p.1,a.eval p.2)) (by
  simp only[Array.toList_map];rw[or (parts.toList.map λp=>(p.1,a.eval p.2)) n (by grind [Function.comp_def])];simp[vals,Function.comp_def])
 refine mK h hd hA hf (Pushed.alloc w (.cells vals.toArray e)) (lo:=0) (hi:=0) (.inl (zB1 _)) false xs n (by grind [maxLen]) (by simp;omega) (by omega) ?_ (v:=.ref k 0 n) ?_ (.inl ⟨n,rfl,zB1 _,rfl⟩) hk
 .grind
 simp_all [execOp,zD4]
structure Src(P:Program)(w:World)(x:Value)(news:List Value):Prop where
 len:∀w1,(Builtin.lenOf x).run P w1=.ok news.length w1
 cells:∀w1:World,w1.heap=w.heap->(Builtin.firstCells 1 news.length x).run P w1=.ok ⟨news⟩ w1
 one:∀v∈news,v.oneCell'=true
theorem cell?_heap{w1:World}(h:w1.heap=w.heap)(a:Addr):w1.cell? a=w.cell? a:=by grind [World.cell?]
theorem mR{xs:List PV}{n cap:Nat}(hn:xs.length=n)(h:xs=[]\/∃B off,ad=some ⟨B,off,none⟩/\RepC w F G B off xs):
  ∃news,news.length=xs.length/\Src P w (.slice ad n cap) news/\∀(j:Nat) (y:PV),xs[j]? =some y->∃v,news[j]? =some v/\RepP w F G y v:=by
 rcases h with rfl|⟨B,off,rfl,hc⟩
 .refine⟨[],rfl,⟨λw1=>by simp_all [Builtin.lenOf],λw1 _=> ?_,λv hv=>by simp at hv⟩,λj y hj=>by simp at hj⟩
  cases ad<;>simp[Builtin.firstCells,loadCells,loadCellsFrom]
 .obtain⟨cs,hl,hlen,hcells,hone⟩:=iz hc
  refine⟨cs,hlen,⟨λw1=>by simp_all [Builtin.lenOf],λw1 hw=> ?_,hone⟩,λj y hj=>lm hl j y hj⟩;grind [run_firstCells_some,fE,cell?_heap]
theorem Ft(h:Rel w0 nA nt M G ι0 A w S ι a){v:AV}{x:Value}{K:List PV->List Nat->Prop}(hx:RepA w (Held S.h ι) G ι v x)(hK:oP S.h v K):
  ∃ys rd,K ys rd/\∃news,news.length=ys.length/\Src P w x news/\∀(j:Nat) (y:PV),ys[j]? =some y->∃u,news[j]? =some u/\RepP w (Held S.h ι) G y u:=by
 unfold oP at hK;split at hK
 .rename_i fl xs
  obtain⟨ad,cap,rfl,hl,hm,_,hc⟩:=jQ hx;refine⟨_,_,hK,mR rfl ?_⟩;grind
 .rename_i s
  have hx:=lC hx;subst hx;refine⟨_,_,hK,s.map (λb=>Value.int .u8 b.toNat),by simp,⟨λw1=>by simp[Builtin.lenOf,ByteArray.size],λw1 _=> ?_,λv hv=> ?_⟩,λj y hj=> ?_⟩
  .simp_all [ByteArray.size,ByteArray.extract_zero_size,Builtin.firstCells,zB2,zI2]
  .simp only[zD0]at hv
   obtain⟨b,_,rfl⟩:=hv;rfl
  .simp only[zA5,zG2]at hj |-
   grind [gN]
 .rename_i id off len
  obtain⟨ad,cap,rfl,hl,hcap,hm,hc⟩:=cS hx;have key:∀c,((∃m,S.h id=.live m c)\/∃m,S.h id=.froz m c)->off+len<=c.length->K ((c.drop off).take len) [id]->
    ∃ys rd,K ys rd/\∃news,news.length=ys.length/\Src P w (.slice ad len cap) news/\∀(j:Nat) (y:PV),ys[j]? =some y->∃u,news[j]? =some u/\RepP w (Held S.h ι) G y u:=by
   intro c hb hle hk;refine⟨_,_,hk,mR (by simp;omega) ?_⟩;by_cases h0:len=0
   .left;subst h0;simp
   .right
    rcases hc with hc|rfl
    .omega
    .exact⟨_,_,rfl,co (bQ (h.heap.cells hb (by grind)) off) len⟩
  split at hK
  .simp_all
  .simp_all
  .exact hK.elim
 .rename_i id r off len
  obtain⟨_,ad,cap,rfl,hl,hcap,hm,hc⟩:=iQ hx;split at hK
  .rename_i m cs rs hb
   split at hK
   .rename_i c hr
    refine⟨_,_,hK.2,mR (by simp;omega) ?_⟩;by_cases h0:len=0
    .left;subst h0;simp
    .right
     rcases hc with hc|rfl
     .omega
     .obtain⟨_,hrow⟩:=h.heap.deepRow hb hr
      exact⟨_,_,rfl,co (bQ (hrow.cells (by grind)).1 off) len⟩
   .exact hK.elim
  .exact hK.elim
 .exact hK.elim
theorem uZ(h:(jK P t').isSome=true\/jX P t'=true):(∃e,P.underlying t'=some (.slice e))\/P.underlying t'=some .string:=by
 grind [da,jk]
theorem fT{e:TypeId}{i:TypeInfo}(hu:P.underlying t=some (.slice e))(hi:P.info? e=some i)(hs:i.size=1)(ht':(jK P t').isSome=true\/jX P t'=true){x:Value}(src:Src P w x news)(hfit:sLen+news.length<=sCap)
  (hst:∀b,base=some b->(storeCells (b.add sLen) news).run P w=.ok () w') (hno:base=none->w'=w):
  (Builtin.append_ #[t,t'] ty #[.slice base sLen sCap,x]).run P w=.ok (.slice base (sLen+news.length) sCap) w':=by
 have hc:=src.cells w rfl;have hl:=src.len w;cases base with
 |none=>
  obtain rfl:=hno rfl;rcases uZ ht' with⟨e',hz⟩|hz<;>simp[Builtin.append_,zD2 hu,zD2 hz,sizeOf,typeInfo,hi,hs,hl,hfit,hc]
 |some b=>
  have hst:=hst b rfl;rcases uZ ht' with⟨e',hz⟩|hz<;>simp[Builtin.append_,zD2 hu,zD2 hz,sizeOf,typeInfo,hi,hs,hl,hfit,hc,hst]
theorem jP{e:TypeId}{i:TypeInfo}{z:Value}(hu:P.underlying t=some (.slice e))(hi:P.info? e=some i)(hz:i.zero=some z)(hs:i.size=1)(hb:i.bytes<=64)(ht':(jK P t').isSome=true\/jX P t'=true){x:Value}(src:Src P w x news)(hfit:sCap<sLen+news.length)
  (hold:∀w1:World,w1.heap=w.heap->(Builtin.firstCells 1 sLen (.slice base sLen sCap)).run P w1=.ok ⟨olds⟩ w1) (hbig:sLen+news.length<=1099511627776):
  (Builtin.append_ #[t,t'] ty #[.slice base sLen sCap,x]).run P w=
   .ok (.slice (some ⟨w.heap.size,0,none⟩) (sLen+news.length) (grownCap w (sLen+news.length) sCap e))
    (w.drew.alloc (.cells (olds++news++(Builtin.zeroCells z.cells (grownCap w (sLen+news.length) sCap e-(sLen+news.length))).toList).toArray e)):=by
 have hl:=src.len w;have hn:¬(sLen+news.length<=sCap):=by omega
 have h63':¬(9223372036854775807<((sLen:Int)+(news.length:Int))):=by omega
 have h48:=growslice_fits (bytes:=i.bytes) hfit (by
  have h3:(sLen+news.length)*i.bytes<=1099511627776*64:=zI9 hbig hb;omega)
 have h48':¬(281474976710656<Builtin.nextslicecap (sLen+news.length) sCap*i.bytes):=by omega
 have hf:=src.cells w.drew rfl;have hfo:=hold w.drew rfl;rcases uZ ht' with⟨e',hz'⟩|hz'
 all_goals
  simp[Builtin.append_,zD2 hu,zD2 hz',sizeOf,typeInfo,zeroValue,hi,hs,hz,hl,hn,h63',h48',Question.forced,hf,hfo,newRow,grownCap];congr 2;grind
end
section
variable {P:Program}{sg:FuncId->List Bool}{w0:World}{nA nt:Nat}{M G:Nat->Prop}{ι0:Nat->Loc}{A:Nat->Prop}{w w':World}{S:St}{ι:Nat->Loc}{a:Act}
theorem Rel.kill(h:Rel w0 nA nt M G ι0 A w S ι a)(k:Nat):Rel w0 nA nt M G ι0 A w {S with h:=updH S.h k .dead} ι a:=by
 obtain⟨ok,hh⟩:=h.heap.kill k;refine h.step (λ_ hi=>hi) (Keep.refl w M) ok (λB o v hF hv=>⟨hv,λh'=>hF (hh B h')⟩) (λ_ _=>LocEq.refl _) λi hi=> ?_;simp only[updH];split
 .rfl
 .exact h.alloc i hi
theorem Kt(h:Nat->Blk)(hne:i≠k)(b c:Blk):updH (updH h i b) k c=updH (updH h k c) i b:=by
 grind [updH]
theorem wY{cs ys:List PV}(hlen:olds.length=cs.length)(h1:∀(j:Nat) (x:PV),cs[j]? =some x->∃v,olds[j]? =some v/\v.oneCell'=true/\RepP w F G x v)
  (h2:∀(j:Nat) (x:PV),ys[j]? =some x->∃v,news[j]? =some v/\RepP w F G x v) (ho:∀v∈news,v.oneCell'=true):∀(j:Nat) (x:PV),(cs++ys)[j]? =some x->∃v,(olds++news++rest)[j]? =some v/\v.oneCell'=true/\RepP w F G x v:=by
 intro j x hj;rw[zE5]at hj;split at hj
 .rename_i hlt
  obtain⟨v,hv,h1',hr⟩:=h1 j x hj;refine⟨v, ?_,h1',hr⟩;rw[zA7,zD8 (by omega)];exact hv
 .rename_i hge
  obtain⟨v,hv,hr⟩:=h2 _ x hj;refine⟨v, ?_,ho v (zF9 hv),hr⟩;have hlt:=(zB4.1 hv).1;rw[zA7,zD1 (by omega),zD8 (by omega),hlen];exact hv
theorem CT{s:Operand}(ho:o.op=.call {callee:=.builtin .append,args:=⟨[s,x]⟩,argTypes:=⟨[t,t']⟩}){r:Result Value}(hsv:a.eval s=sv)
  (hr:(Builtin.append_ #[t,t'] o.type #[sv,a.eval x]).run P w=r):(execOp a.eval o).run P w=r.andThen λv w'=>.ok (.value v) w':=by
 subst hsv;simp only[execOp,ho,resolve,invoke,builtin,zD4,zI2,zD6,List.map_toArray,zC3,zE8,hr]
theorem wX{K:R->Prop}(h:Rel w0 nA nt M G ι0 A w S ι a)(hd:∀d,o.dst=some d->d<nt)(hk0:¬A k){e:TypeId}{inf:TypeInfo}{s:Operand}
  (hu:P.underlying t=some (.slice e)) (hi:P.info? e=some inf) (hz:inf.zero=some zv) (hsz:inf.size=1) (hzs:zv.cells.size=1) (hz1:zv.oneCell'=true) (hb:inf.bytes<=64)
  (ht':(jK P t').isSome=true\/jX P t'=true) {ys:List PV} {rd:List Nat} {news:List Value} (hnl:news.length=ys.length) (src:Src P w (a.eval x) news)
  (hnews:∀(j:Nat) (y:PV),ys[j]? =some y->∃u,news[j]? =some u/\RepP w (Held S.h ι) G y u)
  (exec:∀{r:Result Value} {sv:Value},a.eval s=sv->(Builtin.append_ #[t,t'] o.type #[sv,a.eval x]).run P w=r->(execOp a.eval o).run P w=r.andThen λv w'=>.ok (.value v) w')
  {id off len:Nat} (hs:RepA w (Held S.h ι) G ι (.ref id off len) (a.eval s)) (hid:A id) {m:Bool} {c:List PV} (hblk:S.h id=.live m c)
  (hK:len+ys.length<=1099511627776/\off+len<=c.length/\
    (if off+len=c.length then K ⟨.ref k 0 (len+ys.length),[(id,.dead),(k,.live m (c.drop off++ys))],id::rd⟩
    else if off+len+ys.length<=c.length then K ⟨.ref k off (len+ys.length),[(id,.dead),(k,.live m (c.take (off+len)++ys++c.drop (off+len+ys.length)))],id::rd⟩
    else K ⟨.ref k 0 (len+ys.length),[(id,.dead),(k,.live m ((c.drop off).take len++ys))],id::rd⟩)):Does P w0 nA nt M G ι0 A k o w S a K:=by
 have hne:id≠k:=λe=>hk0 (e▸hid);obtain⟨ad,cap,hv,hl,hcap,hcm,hc⟩:=cS hs;obtain⟨hbig,hle,hK⟩:=hK;obtain⟨g1,g2,g3⟩:=h.heap.live id m c hblk;have old:∃olds:List Value,olds.length=len/\(∀(j:Nat) (x:PV),((c.drop off).take len)[j]? =some x->∃v,olds[j]? =some v/\v.oneCell'=true/\RepP w (Held S.h ι) G x v)/\
   (∀w1:World,w1.heap=w.heap->(Builtin.firstCells 1 len (.slice ad len cap)).run P w1=.ok ⟨olds⟩ w1):=by
  by_cases h0:len=0
  .subst h0
   refine⟨[],rfl,λj x hj=>by simp at hj,λw1 _=> ?_⟩;cases ad<;>simp[Builtin.firstCells,loadCells,loadCellsFrom]
  .rcases hc with hc|rfl
   .omega
   .have hcells:=co (bQ (h.heap.cells (.inl ⟨m,hblk⟩) (by grind)) off) len
    obtain⟨cs,q1,q2,q3,q4⟩:=iz hcells;grind [lm,run_firstCells_some,fE,cell?_heap]
 obtain⟨olds,ol1,ol2,ol3⟩:=old;have ol4:((c.drop off).take len).length=len:=by simp;omega
 by_cases hfit:len+ys.length<=cap
 ·
  by_cases hcap0:cap=0
  ·
   have hy0:ys=[]:=zA4 (by omega);have hl0:len=0:=by omega
   subst hl0;subst hcap0;have hn0:news=[]:=zA4 (by rw[hnl,hy0];rfl);subst hn0;have hr:=fT (P:=P) (w:=w) (w':=w) (ty:=o.type) hu hi hsz ht' (base:=ad) (sLen:=0) (sCap:=0) src (by simp) (λb _=>rfl) (λ_=>rfl);have hco:c.length=off:=by omega
   rw[zB0 (by omega)]at hK;have hK':K ⟨.ref k 0 0,[(id,.dead),(k,.live m [])],id::rd⟩:=by
    grind
   intro Kc Qc next
   have h1:=h.kill id;obtain⟨ok,hh⟩:=h1.heap.nil (k:=k) (h1.alloc k hk0) m ⟨0,0,0,0,bC⟩ rfl;have h2:=h1.step (A':=gh A k) (λi hi=>.inl hi) (Keep.refl w M) ok (λB o v hF hv=>⟨hv,λh'=>hF (hh B h')⟩) (λi hi=>by
    grind [aE,LocEq.refl]) (λi hi=>by
    have hne:i≠k:=λe=>hi (.inr ⟨by omega,by omega⟩);simp only[updH,hne,zE3];exact h1.alloc i λhA=>hi (.inl hA))
   have hr2:=exec hv hr;refine cC hr2 (next _ _ _ (aE ι k ⟨0,0,0,0,bC⟩) hK' ?_);rw[bV];refine h2.put o.dst hd ?_ ?_
   .grind [RepA,aE]
   .intro i hi
    simp[AV.has]at hi;exact .inr ⟨by omega,by omega⟩
  .rcases hc with hc|rfl
   .exact absurd hc hcap0
   .have hcap1:(ι id).cap≠0:=by omega
    rcases g3 with g3|⟨⟨cs,E,lo,hi',hcell,hroom,hfr⟩,hrepc,gx⟩
    .exact absurd g3 hcap1
    .have hst:=bY P (ι id).B ((ι id).off+off+len) E lo hi' news 0 cs w hcell (hfr.imp_right And.right) (by omega) src.one
     simp only[Nat.add_zero]at hst;have hr:=fT (P:=P) (w:=w) (ty:=o.type) hu hi hsz ht' (base:=some ⟨(ι id).B,(ι id).off+off,none⟩) (sLen:=len) (sCap:=cap) src (by omega) (λb hb=>by cases hb;rw[fE];exact hst) (λhb=>by cases hb);have hr2:=exec hv hr;simp only[zD6]at hr2;have hwr:Wrote w (w.setRow (ι id).B (cs.toList.take ((ι id).off+off+len)++news++cs.toList.drop ((ι id).off+off+len+news.length)).toArray) (ι id).B _:=Wrote.setRow hcell (by simp;omega);have hBk:w0.heap.size<=(ι id).B\/M (ι id).B:=by
      grind
     rw[aY]at hrepc;have cellAt:∀j,(cs.toList.take ((ι id).off+off+len)++news++cs.toList.drop ((ι id).off+off+len+news.length)).toArray[j]? =
       if j<(ι id).off+off+len then cs[j]? else if j<(ι id).off+off+len+news.length then news[j-((ι id).off+off+len)]? else cs[j]? :=by
      intro j;have htk:(cs.toList.take ((ι id).off+off+len)).length=(ι id).off+off+len:=by simp;omega
      rw[zH8,zA7];by_cases q1:j<(ι id).off+off+len
      .grind
      .rw[zA8 q1,zD1 (by omega),htk]
       by_cases q2:j<(ι id).off+off+len+news.length
       .grind
       .rw[zA8 q2,zD1 (by omega),zG0]
        rw[show(ι id).off+off+len+news.length+(j-((ι id).off+off+len)-news.length)=j from by omega];simp
     have oldCell:∀(j:Nat) (y:PV),c[j]? =some y->∃v,cs[(ι id).off+j]? =some v/\v.oneCell'=true/\RepP w (Held S.h ι) G y v:=by
      intro j y hj;obtain⟨v,hv1,hv2,hv3⟩:=hrepc j y hj;rw[cell?_eq,hcell]at hv1;exact⟨v,hv1,hv2,hv3⟩
     have shape:∃off2 c2,K ⟨.ref k off2 (len+ys.length),[(id,.dead),(k,.live m c2)],id::rd⟩/\off2<=off/\((off2=0/\c2=(c.drop off).take len++ys)\/(off2=off/\off+len+ys.length<=c.length/\c2=c.take (off+len)++ys++c.drop (off+len+ys.length))):=by
      grind
     obtain⟨off2,c2,hK2,ho2,hshape⟩:=shape;intro Kc Qc next
     have W:=h.heap.write (k:=k) (c':=c2) hblk (.inr (h.alloc k hk0)) hcap1 hwr ((ι id).off+(off-off2)) ((ι id).cap-(off-off2)) 0 bC (by omega) (by omega) (by
      grind) (by
      intro j y hj;rcases hshape with⟨rfl,rfl⟩|⟨rfl,q,rfl⟩
      .rw[zE5]at hj
       rw[cellAt];split at hj
       .grind
       .rename_i hge
        rw[ol4]at hj hge;obtain⟨v,hv1,hv2⟩:=hnews _ y hj;have hlt:=(zB4.1 hv1).1;refine⟨v, ?_,src.one v (zF9 hv1),hv2⟩;rw[zA8 (by omega),zB0 (by omega),show(ι id).off+(off-0)+j-((ι id).off+off+len)=j-len from by omega];exact hv1
      .have htk:(c.take (off2+len)).length=off2+len:=by simp;omega
       rw[cellAt];simp only[Nat.sub_self,Nat.add_zero];rw[zA7,zE5]at hj;split at hj
       .rename_i hlt
        rw[zH2]at hj;split at hj
        .obtain⟨v,hv1,hv2,hv3⟩:=oldCell _ y hj
         grind
        .cases hj
       .rename_i hge
        rw[htk]at hj hge;rw[zE5]at hj;split at hj
        .rename_i hlt2
         obtain⟨v,hv1,hv2⟩:=hnews _ y hj;refine⟨v, ?_,src.one v (zF9 hv1),hv2⟩;rw[zA8 (by omega),zB0 (by omega),show(ι id).off+j-((ι id).off+off2+len)=j-(off2+len)from by omega];exact hv1
        .rename_i hge2
         rw[zG0,show off2+len+ys.length+(j-(off2+len)-ys.length)=j from by omega]at hj;grind)
     obtain⟨ok,hh,st⟩:=W;have h2:=h.stepK (A':=gh A k) (λi hi=>.inl hi) (hwr.keep hBk h.keep) ok st (λi hi=>by
      grind [aE,LocEq.refl]) (λi hi=>by
      have hne:i≠k:=λe=>hi (.inr ⟨by omega,by omega⟩);have hne2:i≠id:=λe=>hi (.inl (e▸hid));simp only[updH,hne,hne2,zE3];exact h.alloc i λhA=>hi (.inl hA))
     refine cC hr2 (next _ _ _ (aE ι k ⟨(ι id).B,(ι id).off+(off-off2),(ι id).cap-(off-off2),0,bC⟩) hK2 ?_);rw[bV];refine h2.put o.dst hd ?_ ?_
     .simp only[RepA,aE,zH3]
      refine⟨_,cap,by rw[hnl],by omega,by omega,by omega,.inr ?_⟩;simp_all
     .intro i hi
      simp[AV.has]at hi;exact .inr ⟨by omega,by omega⟩
 ·
  have hK2:K ⟨.ref k 0 (len+ys.length),[(id,.dead),(k,.live m ((c.drop off).take len++ys))],id::rd⟩:=by
   grind [zA2]
  have hr:=jP (P:=P) (w:=w) (ty:=o.type) hu hi hz hsz hb ht' (base:=ad) (sLen:=len) (sCap:=cap) (olds:=olds) src (by omega) ol3 (by omega);have hr2:=exec hv hr;simp only[zD6]at hr2;have hgc:=grownCap_ge w (len+news.length) cap e;have hgm:=grownCap_le_maxLen w (len+news.length) cap e (by grind [maxLen]);intro Kc Qc next
  have hk2:hwsH S.h [] k=.dead:=h.alloc k hk0;have hzc:=iy hzs hz1;have h1:=h.new_block (k:=k) (A':=gh A k) hk0 (λi hi=>.inl hi) (.inr ⟨by omega,by omega⟩) (ws:=[]) (λp hp=>by simp at hp) (Pushed.drew w (.cells (olds++news++(Builtin.zeroCells zv.cells (grownCap w (len+news.length) cap e-(len+news.length))).toList).toArray e)) (lo:=0) (hi:=0)
   (.inl (zB1 _)) m ((c.drop off).take len++ys) (grownCap w (len+news.length) cap e) hgm (by grind [Builtin.zeroCells]) (by grind) (by
    intro j y hj;have:=wY (rest:=(Builtin.zeroCells zv.cells (grownCap w (len+news.length) cap e-(len+news.length))).toList) (by rw[ol1,ol4]) ol2 hnews src.one j y hj;simpa[hwsH]using this)
  have h2:=h1.kill id;refine cC hr2 (next _ _ _ (aE ι k ⟨w.heap.size,0,grownCap w (len+news.length) cap e,0,bC⟩) hK2 ?_);rw[bV];have e1:hwsH S.h [(id,.dead),(k,.live m ((c.drop off).take len++ys))]=updH (hwsH S.h ([]++[(k,.live m ((c.drop off).take len++ys))])) id .dead:=Kt S.h hne _ _;rw[e1];refine h2.put o.dst hd ?_ ?_
  .grind [RepA,aE]
  .intro i hi
   simp[AV.has]at hi;exact .inr ⟨by omega,by omega⟩
end
end Go.Gl
