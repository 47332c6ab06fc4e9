/-
  A program logic over the walk's rules: values without addresses, a function's own memory by number. This text holds its definitions. Conditions: none; nothing here speaks of one program.
-/
import Derived.WalkKit
import Derived.ProofKit
import Derived.Orders
import Derived.Deep.Draws
namespace Go.Gl
open Go

/-! ### Plain values -/

/-- What is known of the memory of a slice that is told by its elements: nothing (ro), that it is new memory which nobody writes (fr), that it is new and the holder's alone (own: results of calls, and the nil slice). -/
inductive Fl where | ro | fr | own
  deriving DecidableEq

inductive PV where
  | int (k : IntKind) (n : Int)
  | bool (b : Bool)
  | str (s : List UInt8)
  | sl (o : Fl) (xs : List PV)
  | agg (xs : List PV)
  | fn (f : FuncId) (first caps : List PV)
  | nilf
  | pc (xs : List PV)
  | any
  deriving Inhabited

/-- What a slot holds. -/
inductive AV where
  | p (v : PV)
  | ref (id off len : Nat)
  | ptr (id off : Nat)
  | agg (xs : List AV)
  | tup (xs : List AV)
  | fn (f : FuncId) (first caps : List AV)
  deriving Inhabited

/-- A block of the call's own: live (m: it may be memory that a caller lent), frozen, or gone. -/
inductive Blk where
  | live (m : Bool) (c : List PV)
  | froz (m : Bool) (c : List PV)
  | dead

/-- The state of a call: its slots, its own memory, the next free number. -/
structure St where
  e : Nat → AV
  h : Nat → Blk
  n : Nat

def St.put (S : St) (d : Nat) (v : AV) : St := { S with e := fun t => if t = d then v else S.e t }
def St.hw (S : St) (i : Nat) (b : Blk) : St := { S with h := fun j => if j = i then b else S.h j }
def St.nx (S : St) (k : Nat) : St := { S with n := S.n + k }

def St.puto (S : St) (d : Option Nat) (v : AV) : St :=
  match d with
  | some d => S.put d v
  | none => S
def hwsH (h : Nat → Blk) : List (Nat × Blk) → Nat → Blk
  | [] => h
  | (i, b) :: l => hwsH (fun j => if j = i then b else h j) l
def St.hws (S : St) (l : List (Nat × Blk)) : St := { S with h := hwsH S.h l }

/-- What an operation comes to: its value, the blocks that it sets, the blocks that it looks at. -/
structure R where
  v : AV
  ws : List (Nat × Blk)
  rd : List Nat

def inR (k : IntKind) (n : Int) : Prop := k.min ≤ n ∧ n ≤ k.max
/-- The bound on every slice that grows. -/
def big : Nat := 1099511627776

def ofConst1 : Value → PV
  | .int k n => .int k n
  | .bool b => .bool b
  | .string s => .str s.data.toList
  | .slice none 0 0 => .sl .own []
  | .nilFunc => .nilf
  | _ => .any
def ofConst : Value → PV
  | .agg cs => .agg (cs.toList.map ofConst1)
  | v => ofConst1 v

def opd (S : St) : Operand → AV
  | .tmp t => S.e t
  | .const v => .p (ofConst v)
  | .func f => .p (.fn f [] [])
  | .global _ => .p .any

/-- May it lie in one cell of memory? -/
def PV.cellOk : PV → Bool
  | .agg _ | .any | .pc _ => false
  | .sl .own _ => false
  | _ => true

/-- The nil slice, as it lies in memory. -/
def PV.cell : PV → PV
  | .sl .own _ => .sl .fr []
  | x => x

def Fl.lent (m : Bool) : Fl := bif m then .ro else .fr

/-- A value made fit to be laid into memory: its slices told by their elements; the blocks that are shared from here on. -/
def pub (h : Nat → Blk) (v : AV) (K : PV → List (Nat × Blk) → List Nat → Prop) : Prop :=
  match v with
  | .p x => x.cell.cellOk = true ∧ K x.cell [] []
  | .ref id off len => match h id with
    | .live m c => off + len ≤ c.length ∧ K (.sl (.lent m) ((c.drop off).take len)) [(id, .froz m c)] [id]
    | .froz m c => off + len ≤ c.length ∧ K (.sl (.lent m) ((c.drop off).take len)) [] [id]
    | .dead => False
  | _ => False

/-- Some values, one behind the other. -/
def pubs (h : Nat → Blk) : List AV → (List PV → List (Nat × Blk) → List Nat → Prop) → Prop
  | [], K => K [] [] []
  | v :: vs, K => pub h v fun x ws rd => pubs h vs fun xs ws' rd' => K (x :: xs) (ws ++ ws') (rd ++ rd')

/-- A value handed to a callee that only reads it. -/
def pur1 (h : Nat → Blk) (v : AV) (K : PV → List Nat → Prop) : Prop :=
  match v with
  | .p x => K x.cell []
  | .ref id off len => match h id with
    | .live _ c => off + len ≤ c.length ∧ K (.sl .ro ((c.drop off).take len)) [id]
    | .froz m c => off + len ≤ c.length ∧ K (.sl (.lent m) ((c.drop off).take len)) [id]
    | .dead => False
  | .ptr id off => match h id with
    | .live _ c => K (.pc (c.drop off)) [id]
    | .froz _ c => K (.pc (c.drop off)) [id]
    | .dead => False
  | _ => False
def purs1 (h : Nat → Blk) : List AV → (List PV → List Nat → Prop) → Prop
  | [], K => K [] []
  | v :: vs, K => pur1 h v fun x rd => purs1 h vs fun xs rd' => K (x :: xs) (rd ++ rd')
def pur (h : Nat → Blk) (v : AV) (K : PV → List Nat → Prop) : Prop :=
  match v with
  | .agg xs => purs1 h xs fun ys rd => K (.agg ys) rd
  | .fn f first caps => purs1 h first fun ys rd => purs1 h caps fun zs rd' => K (.fn f ys zs) (rd ++ rd')
  | v => pur1 h v K

/-- The elements of a slice, or the bytes of a string. -/
def cont (h : Nat → Blk) (v : AV) (K : List PV → List Nat → Prop) : Prop :=
  match v with
  | .p (.sl _ xs) => K xs []
  | .p (.str s) => K (s.map fun b => .int .u8 b.toNat) []
  | .ref id off len => match h id with
    | .live _ c => off + len ≤ c.length ∧ K ((c.drop off).take len) [id]
    | .froz _ c => off + len ≤ c.length ∧ K ((c.drop off).take len) [id]
    | .dead => False
  | _ => False

def gt {α : Type} (xs : List α) (i : Int) (K : α → Prop) : Prop := 0 ≤ i ∧ match xs[i.toNat]? with | some x => K x | none => False

/-! ### What is asked of the program's types -/

/-- A slice type whose elements take one cell: their bytes and their zero value. -/
def slT (P : Program) (t : TypeId) : Option (Nat × PV) :=
  match P.underlying t with
  | some (.slice e) => match P.info? e with
    | some i => match i.zero with
      | some z => if i.size = 1 ∧ z.cells.size = 1 ∧ z.oneCell' = true ∧ i.bytes ≤ 64 then some (i.bytes, (ofConst1 z).cell) else none
      | none => none
    | none => none
  | _ => none
def intT (P : Program) (t : TypeId) : Option IntKind :=
  match P.underlying t with
  | some (.int k) => some k
  | _ => none
def strT (P : Program) (t : TypeId) : Bool :=
  match P.underlying t with
  | some .string => true
  | _ => false
def boolT (P : Program) (t : TypeId) : Bool :=
  match P.underlying t with
  | some .bool => true
  | _ => false
/-- The cells of a type; and whether it is a struct or an array. -/
def szT (P : Program) (t : TypeId) : Option (Nat × Bool) :=
  match P.underlying t, P.info? t with
  | some (.struct _), some i => some (i.size, true)
  | some (.array _ _), some i => some (i.size, true)
  | some _, some i => some (i.size, false)
  | _, _ => none
def zeroT (P : Program) (t : TypeId) : Option (List PV) :=
  match P.info? t with
  | some i => match i.zero with
    | some z => some (z.cells.toList.map fun v => (ofConst1 v).cell)
    | none => none
  | none => none
/-- A field of a struct type: its place, its cells, whether it is a struct or an array itself. -/
def fldT (P : Program) (t : TypeId) (f : Nat) : Option (Nat × Nat × Bool) :=
  match P.underlying t with
  | some (.struct fs) => match fs[f]? with
    | some x => match szT P x.type with
      | some (n, b) => some (x.offset, n, b)
      | none => none
    | none => none
  | _ => none
/-- An array type whose elements take one cell: its length. -/
def arrT (P : Program) (t : TypeId) : Option Nat :=
  match P.underlying t with
  | some (.array n e) => match P.info? e with
    | some i => if i.size = 1 ∧ 2 ≤ n then some n else none
    | none => none
  | _ => none

/-! ### Contracts -/

structure Loc where
  B : Nat
  off : Nat
  cap : Nat

/-- What is handed to a call: a value to read, or memory to write (ptr: by a pointer; else as a whole slice). -/
inductive Arg where
  | pv (v : PV)
  | mu (ptr : Bool) (c : List PV)

mutual
/-- The value 'v', in the world w, is told by the plain value: nothing that it leads to lies in a block of F; what is marked 'fr' lies in blocks of G. -/
def RepP (w : World) (F G : Nat → Prop) : PV → Value → Prop
  | .int k n, v => v = .int k n
  | .bool b, v => v = .bool b
  | .str s, v => v = .string ⟨s.toArray⟩
  | .sl o xs, v => ∃ a cap, v = .slice a xs.length cap ∧ xs.length ≤ cap ∧ cap ≤ maxLen ∧ (o = .own → xs = [] ∧ a = none ∧ cap = 0) ∧
      (xs = [] ∨ ∃ B off, a = some ⟨B, off, none⟩ ∧ ¬ F B ∧ (o = .fr → G B) ∧ RepC w F G B off xs)
  | .agg xs, v => ∃ cs, v = .agg ⟨cs⟩ ∧ RepL w F G xs cs
  | .fn f first caps, v => ∃ a b, v = .func (.func f) ⟨a⟩ ⟨b⟩ ∧ RepL w F G first a ∧ RepL w F G caps b
  | .nilf, v => v = .nilFunc
  | .pc xs, v => ∃ B off, v = .pointer (some ⟨B, off, none⟩) ∧ (xs = [] ∨ ¬ F B) ∧ RepC w F G B off xs
  | .any, _ => True
def RepC (w : World) (F G : Nat → Prop) (B : Nat) : Nat → List PV → Prop
  | _, [] => True
  | o, x :: xs => (∃ v, w.cell? ⟨B, o, none⟩ = some v ∧ v.oneCell' = true ∧ RepP w F G x v) ∧ RepC w F G B (o + 1) xs
def RepL (w : World) (F G : Nat → Prop) : List PV → List Value → Prop
  | [], vs => vs = []
  | x :: xs, vs => ∃ v vs', vs = v :: vs' ∧ RepP w F G x v ∧ RepL w F G xs vs'
end

mutual
def RepA (w : World) (F G : Nat → Prop) (ι : Nat → Loc) : AV → Value → Prop
  | .p x, v => RepP w F G x v
  | .ref id off len, v => ∃ a cap, v = .slice a len cap ∧ len ≤ cap ∧ off + cap = (ι id).cap ∧ (ι id).cap ≤ maxLen ∧ (cap = 0 ∨ a = some ⟨(ι id).B, (ι id).off + off, none⟩)
  | .ptr id off, v => v = .pointer (some ⟨(ι id).B, (ι id).off + off, none⟩)
  | .agg xs, v => ∃ cs, v = .agg ⟨cs⟩ ∧ RepAL w F G ι xs cs
  | .tup xs, v => ∃ cs, v = .tuple ⟨cs⟩ ∧ RepAL w F G ι xs cs
  | .fn f first caps, v => ∃ a b, v = .func (.func f) ⟨a⟩ ⟨b⟩ ∧ RepAL w F G ι first a ∧ RepAL w F G ι caps b
def RepAL (w : World) (F G : Nat → Prop) (ι : Nat → Loc) : List AV → List Value → Prop
  | [], vs => vs = []
  | x :: xs, vs => ∃ v vs', vs = v :: vs' ∧ RepA w F G ι x v ∧ RepAL w F G ι xs vs'
end

mutual
/-- Does a value name block i? -/
def AV.has : AV → Nat → Bool
  | .p _, _ => false
  | .ref id _ _, i => id == i
  | .ptr id _, i => id == i
  | .agg xs, i => AV.hasL xs i
  | .tup xs, i => AV.hasL xs i
  | .fn _ a b, i => AV.hasL a i || AV.hasL b i
def AV.hasL : List AV → Nat → Bool
  | [], _ => false
  | x :: xs, i => x.has i || AV.hasL xs i
end

/-- The blocks that the call holds alone. -/
def Held (h : Nat → Blk) (ι : Nat → Loc) (B : Nat) : Prop := ∃ id m c, h id = .live m c ∧ (ι id).cap ≠ 0 ∧ (ι id).B = B

/-- A row of cells that may be written. -/
def RowAt (w : World) (l : Loc) : Prop :=
  ∃ cs E lo hi, w.heap[l.B]? = some (.cells cs E (lo, hi)) ∧ l.off + l.cap ≤ cs.size ∧ (hi ≤ lo ∨ cs.size ≤ lo)

structure HeapOk (w : World) (w0 : Nat) (M : Nat → Prop) (G : Nat → Prop) (h : Nat → Blk) (ι : Nat → Loc) : Prop where
  live : ∀ id m c, h id = .live m c → c.length ≤ (ι id).cap ∧ (ι id).cap ≤ maxLen ∧
    ((ι id).cap = 0 ∨ (RowAt w (ι id) ∧ RepC w (Held h ι) G (ι id).B (ι id).off c ∧ ((w0 ≤ (ι id).B ∧ G (ι id).B) ∨ (m = true ∧ M (ι id).B))))
  froz : ∀ id m c, h id = .froz m c → c.length ≤ (ι id).cap ∧ (ι id).cap ≤ maxLen ∧
    (c = [] ∨ (¬ Held h ι (ι id).B ∧ (m = false → G (ι id).B) ∧ RepC w (Held h ι) G (ι id).B (ι id).off c))
  sep : ∀ id m c id' m' c', h id = .live m c → h id' = .live m' c' → id ≠ id' → (ι id).cap ≠ 0 → (ι id').cap ≠ 0 → (ι id).B ≠ (ι id').B

/-- What was there stays, but in the blocks of M. -/
structure Keep (w w' : World) (M : Nat → Prop) : Prop where
  os : w'.os = w.os
  tape : w'.tape = w.tape
  output : w'.output = w.output
  size : w.heap.size ≤ w'.heap.size
  block : ∀ k, k < w.heap.size → ¬ M k → w'.heap[k]? = w.heap[k]?

def Arg.av (j : Nat) : Arg → AV
  | .pv x => .p x
  | .mu false c => .ref j 0 c.length
  | .mu true _ => .ptr j 0
def argAVs : Nat → List Arg → List AV
  | _, [] => []
  | j, a :: as => a.av j :: argAVs (j + 1) as
def argH (as : List Arg) (j : Nat) : Blk :=
  match as[j]? with
  | some (.mu _ c) => .live true c
  | _ => .dead
/-- The blocks lent. -/
def argM (as : List Arg) (ι : Nat → Loc) (B : Nat) : Prop := Held (argH as) ι B

/-- What a result is as a slot's value, and the blocks that come with it: from number k on. -/
def imp1 (k : Nat) : PV → AV
  | .sl .own xs => .ref k 0 xs.length
  | x => .p x
def impW1 (m : Bool) (k : Nat) : PV → List (Nat × Blk)
  | .sl .own xs => [(k, .live m xs)]
  | _ => []
def impL (k : Nat) : List PV → List AV
  | [] => []
  | x :: xs => imp1 k x :: impL (k + 1) xs
def impWL (m : Bool) (k : Nat) : List PV → List (Nat × Blk)
  | [] => []
  | x :: xs => impW1 m k x ++ impWL m (k + 1) xs
def imp (k : Nat) : PV → AV
  | .agg xs => .agg (impL (k + 1) xs)
  | x => imp1 k x
def impW (m : Bool) (k : Nat) : PV → List (Nat × Blk)
  | .agg xs => impWL m (k + 1) xs
  | x => impW1 m k x
/-- Several results: the i-th from number k + 16 i on. -/
def imps (k : Nat) : List PV → List AV
  | [] => []
  | x :: xs => imp k x :: imps (k + 16) xs
def impWs (m : Bool) (k : Nat) : List PV → List (Nat × Blk)
  | [] => []
  | x :: xs => impW m k x ++ impWs m (k + 16) xs
def impAll (k : Nat) : List PV → AV
  | [x] => imp k x
  | xs => .tup (imps k xs)

/-- What became of the memory lent (one entry an argument: what it holds now; 'none': it is gone). -/
def outH (as : List Arg) (outs : List (Option (List PV))) (j : Nat) : Blk :=
  match as[j]? with
  | some (.mu _ _) => match outs[j]? with
    | some (some c) => .live true c
    | _ => .dead
  | _ => .dead
def postH (tk : Bool) (as : List Arg) (outs : List (Option (List PV))) (res : List PV) : Nat → Blk :=
  hwsH (outH as outs) (impWs tk as.length res)

mutual
/-- It leads to no memory but new memory: none that the caller may still write. -/
def noRo : PV → Bool
  | .sl .ro _ => false
  | .sl _ xs => noRoL xs
  | .agg xs => noRoL xs
  | .pc _ | .fn .. | .any => false
  | _ => true
def noRoL : List PV → Bool
  | [] => true
  | x :: xs => noRo x && noRoL xs
end
theorem noRoL_map {α : Type} {f : α → PV} (h : ∀ a, noRo (f a) = true) : ∀ xs : List α, noRoL (xs.map f) = true
  | [] => rfl
  | x :: xs => by simp only [List.map_cons, noRoL, h x, noRoL_map h xs, Bool.and_self]
theorem noRoL_replicate {x : PV} (h : noRo x = true) : ∀ n, noRoL (List.replicate n x) = true
  | 0 => rfl
  | n + 1 => by simp only [List.replicate_succ, noRoL, h, noRoL_replicate h n, Bool.and_self]

/-- Few enough results. -/
def smallP : PV → Bool
  | .agg xs => decide (xs.length ≤ 14)
  | _ => true
def resOk (res : List PV) : Bool := decide (res.length ≤ 15) && res.all smallP

/-- Function f, called so, returns so: whatever the world, whatever else is in memory ('tk': a result may lie in memory that was lent). -/
def CallT (P : Program) (tk : Bool) (f : FuncId) (as : List Arg) (outs : List (Option (List PV))) (res : List PV) : Prop :=
  (∃ fn, P.funcs[f]? = some fn ∧ fn.body.isSome = true ∧ (fn.name == "runtime.NumGoroutine") = false) ∧ noRoL res = true ∧ resOk res = true ∧ (outs.all fun o => o.all noRoL) = true ∧
  ∀ (w : World) (G : Nat → Prop) (ι : Nat → Loc) (vs : List Value), (∀ B, w.heap.size ≤ B → G B) → HeapOk w w.heap.size (argM as ι) G (argH as) ι →
    RepAL w (Held (argH as) ι) G ι (argAVs 0 as) vs →
    Calls P f ⟨vs⟩ w fun e w' => ∃ v ι', e = .returned v ∧ (∀ j, j < as.length → ι' j = ι j) ∧ Keep w w' (argM as ι) ∧
      HeapOk w' w.heap.size (argM as ι) G (postH tk as outs res) ι' ∧ RepA w' (Held (postH tk as outs res) ι') G ι' (impAll as.length res) v

/-- The common kind: it reads its arguments, it returns; what it returns lies in new memory. -/
def Fun (P : Program) (f : FuncId) (args res : List PV) : Prop := CallT P false f (args.map .pv) [] res

end Go.Gl
