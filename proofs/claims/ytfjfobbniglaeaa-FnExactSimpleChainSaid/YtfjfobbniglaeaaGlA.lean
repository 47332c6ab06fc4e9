/-
 A program logic over the walk's rules, joined: its definitions; what each operation does. Conditions: those that each lemma names.
-/
import Derived.WalkKit
import Derived.ProofKit
import Derived.Orders
import Derived.Deep.Draws
import Derived.Maps.Keyed
import Derived.DeepKeys4
set_option linter.unusedSimpArgs false
set_option linter.unusedVariables false
set_option linter.unusedSectionVars false
namespace Go.Gl
open Go
/-! ### Plain values -/
/-- What is known of the memory of a slice that is told by its elements: nothing (ro), that it is new memory which nobody writes (fr), that it is new and the holder's alone (own: results of calls, and the nil slice). -/
inductive Fl where | ro | fr | own
 deriving DecidableEq
inductive PV where
 | int (k : IntKind) (n : Int)
 | bool (b : Bool)
 | str (s : List UInt8)
 | sl (o : Fl) (xs : List PV)
 | agg (xs : List PV)
 | fn (f : FuncId) (first caps : List PV)
 | nilf
 | pc (xs : List PV)
 | any
 | dl (rows : List (List PV))
 | bx (xs : List PV)
 | nl
 deriving Inhabited
/-- What a slot holds. -/
inductive AV where
 | p (v : PV)
 | ref (id off len : Nat)
 | ptr (id off : Nat)
 | agg (xs : List AV)
 | tup (xs : List AV)
 | fn (f : FuncId) (first caps : List AV)
 | inn (id r off len : Nat)
 | iptr (id r off : Nat)
 | mp (id : Nat)
 | prs (id len : Nat)
 deriving Inhabited
/-- A cell of a block whose rows are the call's own too: a plain value; the slice of one of its rows; the address of one of its own cells. -/
inductive DC where
 | v (x : PV)
 | row (r : Nat)
 | self (off : Nat)
/-- A block of the call's own: live (m: it may be memory that a caller lent), frozen, or gone. A map: what its keys are, its entries (the first one of a key counts). -/
inductive Blk where
 | live (m : Bool) (c : List PV)
 | froz (m : Bool) (c : List PV)
 | deep (m : Bool) (cs : List DC) (rs : List (Option (List PV)))
 | map (m : Bool) (kt : Value → Prop) (es : List (PV × PV))
 | dead
/-- A key, as a value. -/
def kV1 : PV → Value
 | .int k n => .int k n
 | .bool b => .bool b
 | .str s => .string ⟨s.toArray⟩
 | _ => undef
def kV : PV → Value
 | .agg xs => .agg ⟨xs.map kV1⟩
 | x => kV1 x
open Classical in
/-- What a map holds at a key. -/
noncomputable def mget : List (PV × PV) → PV → Option PV
 | [], _ => none
 | (k, v) :: es, q => if kV k = kV q then some v else mget es q
/-- The cells of a slice of slices, each with a row of its own. -/
def canon (n : Nat) : List DC := (List.range n).map .row
/-- The same, the rows told from number n on (those ahead are gone). -/
def canonS (n : Nat) : List DC := (List.range n).map fun j => .row (n + j)
/-- Memory that is lent or handed back: a row, or a row of rows. -/
def mkB (m : Bool) : List PV → Blk
 | [.dl rows] => .deep m (canon rows.length) (rows.map some)
 | c => .live m c
def lenC : List PV → Nat
 | [.dl rows] => rows.length
 | c => c.length
/-- The state of a call: its slots, its own memory, the next free number. -/
structure St where
 e : Nat → AV
 h : Nat → Blk
 n : Nat
def St.put (S : St) (d : Nat) (v : AV) : St := { S with e := fun t => if t = d then v else S.e t }
def St.hw (S : St) (i : Nat) (b : Blk) : St := { S with h := fun j => if j = i then b else S.h j }
def St.nx (S : St) (k : Nat) : St := { S with n := S.n + k }
def St.puto (S : St) (d : Option Nat) (v : AV) : St :=
 match d with
 | some d => S.put d v
 | none => S
def hwsH (h : Nat → Blk) : List (Nat × Blk) → Nat → Blk
 | [] => h
 | (i, b) :: l => hwsH (fun j => if j = i then b else h j) l
def St.hws (S : St) (l : List (Nat × Blk)) : St := { S with h := hwsH S.h l }
/-- What an operation comes to: its value, the blocks that it sets, the blocks that it looks at. -/
structure R where
 v : AV
 ws : List (Nat × Blk)
 rd : List Nat
def inR (k : IntKind) (n : Int) : Prop := k.min ≤ n ∧ n ≤ k.max
/-- The bound on every slice that grows. -/
def big : Nat := 1099511627776
def ofConst1 : Value → PV
 | .int k n => .int k n
 | .bool b => .bool b
 | .string s => .str s.data.toList
 | .slice none 0 0 => .sl .own []
 | .nilFunc => .nilf
 | _ => .any
def ofConst : Value → PV
 | .agg cs => .agg (cs.toList.map ofConst1)
 | v => ofConst1 v
def opd (S : St) : Operand → AV
 | .tmp t => S.e t
 | .const v => .p (ofConst v)
 | .func f => .p (.fn f [] [])
 | .global _ => .p .any
/-- May it lie in one cell of memory? -/
def PV.cellOk : PV → Bool
 | .agg _ | .any | .pc _ | .dl _ | .bx _ => false
 | .sl .own _ => false
 | _ => true
/-- The nil slice, as it lies in memory. -/
def PV.cell : PV → PV
 | .sl .own _ => .sl .fr []
 | x => x
def Fl.lent (m : Bool) : Fl := bif m then .ro else .fr
/-- A value made fit to be laid into memory: its slices told by their elements; the blocks that are shared from here on. -/
def pub (h : Nat → Blk) (v : AV) (K : PV → List (Nat × Blk) → List Nat → Prop) : Prop :=
 match v with
 | .p x => x.cell.cellOk = true ∧ K x.cell [] []
 | .ref id off len => match h id with
  | .live m c => off + len ≤ c.length ∧ K (.sl (.lent m) ((c.drop off).take len)) [(id, .froz m c)] [id]
  | .froz m c => off + len ≤ c.length ∧ K (.sl (.lent m) ((c.drop off).take len)) [] [id]
  | _ => False
 | _ => False
/-- Some values, one behind the other. -/
def pubs (h : Nat → Blk) : List AV → (List PV → List (Nat × Blk) → List Nat → Prop) → Prop
 | [], K => K [] [] []
 | v :: vs, K => pub h v fun x ws rd => pubs h vs fun xs ws' rd' => K (x :: xs) (ws ++ ws') (rd ++ rd')
/-- What a reader sees in a cell. -/
def DC.rd (rs : List (Option (List PV))) : DC → PV
 | .v x => x
 | .row r => match rs[r]? with
  | some (some c) => .sl .ro c
  | _ => .any
 | .self _ => .any
/-- A value handed to a callee that only reads it. -/
def pur1 (h : Nat → Blk) (v : AV) (K : PV → List Nat → Prop) : Prop :=
 match v with
 | .p x => K x.cell []
 | .ref id off len => match h id with
  | .live _ c => off + len ≤ c.length ∧ K (.sl .ro ((c.drop off).take len)) [id]
  | .froz m c => off + len ≤ c.length ∧ K (.sl (.lent m) ((c.drop off).take len)) [id]
  | .deep _ cs rs => off + len ≤ cs.length ∧ K (.sl .ro (((cs.map (DC.rd rs)).drop off).take len)) [id]
  | _ => False
 | .ptr id off => match h id with
  | .live _ c => K (.pc (c.drop off)) [id]
  | .froz _ c => K (.pc (c.drop off)) [id]
  | .deep _ cs rs => K (.pc ((cs.map (DC.rd rs)).drop off)) [id]
  | _ => False
 | .inn id r off len => match h id with
  | .deep _ _ rs => (match rs[r]? with
   | some (some c) => off + len ≤ c.length ∧ K (.sl .ro ((c.drop off).take len)) [id]
   | _ => False)
  | _ => False
 | _ => False
def purs1 (h : Nat → Blk) : List AV → (List PV → List Nat → Prop) → Prop
 | [], K => K [] []
 | v :: vs, K => pur1 h v fun x rd => purs1 h vs fun xs rd' => K (x :: xs) (rd ++ rd')
def pur (h : Nat → Blk) (v : AV) (K : PV → List Nat → Prop) : Prop :=
 match v with
 | .agg xs => purs1 h xs fun ys rd => K (.agg ys) rd
 | .fn f first caps => purs1 h first fun ys rd => purs1 h caps fun zs rd' => K (.fn f ys zs) (rd ++ rd')
 | v => pur1 h v K
/-- The elements of a slice, or the bytes of a string. -/
def cont (h : Nat → Blk) (v : AV) (K : List PV → List Nat → Prop) : Prop :=
 match v with
 | .p (.sl _ xs) => K xs []
 | .p (.str s) => K (s.map fun b => .int .u8 b.toNat) []
 | .ref id off len => match h id with
  | .live _ c => off + len ≤ c.length ∧ K ((c.drop off).take len) [id]
  | .froz _ c => off + len ≤ c.length ∧ K ((c.drop off).take len) [id]
  | _ => False
 | .inn id r off len => match h id with
  | .deep _ _ rs => (match rs[r]? with
   | some (some c) => off + len ≤ c.length ∧ K ((c.drop off).take len) [id]
   | _ => False)
  | _ => False
 | _ => False
def gt {α : Type} (xs : List α) (i : Int) (K : α → Prop) : Prop := 0 ≤ i ∧ match xs[i.toNat]? with | some x => K x | none => False
/-! ### What is asked of the program's types -/
/-- A slice type whose elements take one cell: their bytes and their zero value. -/
def slT (P : Program) (t : TypeId) : Option (Nat × PV) :=
 match P.underlying t with
 | some (.slice e) => match P.info? e with
  | some i => match i.zero with
   | some z => if i.size = 1 ∧ z.cells.size = 1 ∧ z.oneCell' = true ∧ i.bytes ≤ 64 then some (i.bytes, (ofConst1 z).cell) else none
   | none => none
  | none => none
 | _ => none
def intT (P : Program) (t : TypeId) : Option IntKind :=
 match P.underlying t with
 | some (.int k) => some k
 | _ => none
def strT (P : Program) (t : TypeId) : Bool :=
 match P.underlying t with
 | some .string => true
 | _ => false
def boolT (P : Program) (t : TypeId) : Bool :=
 match P.underlying t with
 | some .bool => true
 | _ => false
/-- The cells of a type; and whether it is a struct or an array. -/
def szT (P : Program) (t : TypeId) : Option (Nat × Bool) :=
 match P.underlying t, P.info? t with
 | some (.struct _), some i => some (i.size, true)
 | some (.array _ _), some i => some (i.size, true)
 | some _, some i => some (i.size, false)
 | _, _ => none
def zeroT (P : Program) (t : TypeId) : Option (List PV) :=
 match P.info? t with
 | some i => match i.zero with
  | some z => some (z.cells.toList.map fun v => (ofConst1 v).cell)
  | none => none
 | none => none
/-- A field of a struct type: its place, its cells, whether it is a struct or an array itself. -/
def fldT (P : Program) (t : TypeId) (f : Nat) : Option (Nat × Nat × Bool) :=
 match P.underlying t with
 | some (.struct fs) => match fs[f]? with
  | some x => match szT P x.type with
   | some (n, b) => some (x.offset, n, b)
   | none => none
  | none => none
 | _ => none
/-- An array type whose elements take one cell: its length. -/
def arrT (P : Program) (t : TypeId) : Option Nat :=
 match P.underlying t with
 | some (.array n e) => match P.info? e with
  | some i => if i.size = 1 ∧ 2 ≤ n then some n else none
  | none => none
 | _ => none
/-! ### Contracts -/
structure Loc where
 B : Nat
 off : Nat
 cap : Nat
 n : Nat
 inn : Nat → Nat × Nat × Nat
/-- Nothing is told of inner rows. -/
def noInn : Nat → Nat × Nat × Nat := fun _ => (0, 0, 0)
/-- Where an inner row lies. -/
def Loc.sub (l : Loc) (r : Nat) : Loc := ⟨(l.inn r).1, (l.inn r).2.1, (l.inn r).2.2, 0, noInn⟩
/-- Inner rows told from number n on. -/
def Loc.shL (l : Loc) (n : Nat) : Loc := ⟨l.B, l.off, l.cap, n, fun r => l.inn (n + r)⟩
/-- The same place; inner rows may have come. -/
def LocEq (l l' : Loc) : Prop := l'.B = l.B ∧ l'.off = l.off ∧ l'.cap = l.cap ∧ l.n ≤ l'.n ∧ ∀ r, r < l.n → l'.inn r = l.inn r
theorem LocEq.refl (l : Loc) : LocEq l l := ⟨rfl, rfl, rfl, Nat.le_refl _, fun _ _ => rfl⟩
theorem LocEq.of_eq {l l' : Loc} (e : l' = l) : LocEq l l' := e ▸ LocEq.refl l
theorem LocEq.trans {a b c : Loc} (h : LocEq a b) (k : LocEq b c) : LocEq a c :=
 ⟨k.1.trans h.1, k.2.1.trans h.2.1, k.2.2.1.trans h.2.2.1, Nat.le_trans h.2.2.2.1 k.2.2.2.1, fun r hr => (k.2.2.2.2 r (Nat.lt_of_lt_of_le hr h.2.2.2.1)).trans (h.2.2.2.2 r hr)⟩
theorem LocEq.sub {l l' : Loc} (h : LocEq l l') {r : Nat} (hr : r < l.n) : l'.sub r = l.sub r := by simp only [Loc.sub, h.2.2.2.2 r hr]
/-- What is handed to a call: a value to read, or memory to write (ptr: by a pointer; else as a whole slice). -/
inductive Arg where
 | pv (v : PV)
 | mu (ptr : Bool) (c : List PV)
mutual
/-- The value 'v', in the world w, is told by the plain value: nothing that it leads to lies in a block of F; what is marked 'fr' lies in blocks of G. -/
def RepP (w : World) (F G : Nat → Prop) : PV → Value → Prop
 | .int k n, v => v = .int k n
 | .bool b, v => v = .bool b
 | .str s, v => v = .string ⟨s.toArray⟩
 | .sl o xs, v => ∃ a cap, v = .slice a xs.length cap ∧ xs.length ≤ cap ∧ cap ≤ maxLen ∧ (o = .own → xs = [] ∧ a = none ∧ cap = 0) ∧
   (xs = [] ∨ ∃ B off, a = some ⟨B, off, none⟩ ∧ ¬ F B ∧ (o = .fr → G B) ∧ RepC w F G B off xs)
 | .agg xs, v => ∃ cs, v = .agg ⟨cs⟩ ∧ RepL w F G xs cs
 | .fn f first caps, v => ∃ a b, v = .func (.func f) ⟨a⟩ ⟨b⟩ ∧ RepL w F G first a ∧ RepL w F G caps b
 | .nilf, v => v = .nilFunc
 | .pc xs, v => ∃ B off, v = .pointer (some ⟨B, off, none⟩) ∧ (xs = [] ∨ ¬ F B) ∧ RepC w F G B off xs
 | .any, _ => True
 | .dl _, _ => False
 | .bx _, _ => False
 | .nl, v => v = .slice none 0 0
def RepC (w : World) (F G : Nat → Prop) (B : Nat) : Nat → List PV → Prop
 | _, [] => True
 | o, x :: xs => (∃ v, w.cell? ⟨B, o, none⟩ = some v ∧ v.oneCell' = true ∧ RepP w F G x v) ∧ RepC w F G B (o + 1) xs
def RepL (w : World) (F G : Nat → Prop) : List PV → List Value → Prop
 | [], vs => vs = []
 | x :: xs, vs => ∃ v vs', vs = v :: vs' ∧ RepP w F G x v ∧ RepL w F G xs vs'
end
mutual
def RepA (w : World) (F G : Nat → Prop) (ι : Nat → Loc) : AV → Value → Prop
 | .p x, v => RepP w F G x v
 | .ref id off len, v => ∃ a cap, v = .slice a len cap ∧ len ≤ cap ∧ off + cap = (ι id).cap ∧ (ι id).cap ≤ maxLen ∧ (cap = 0 ∨ a = some ⟨(ι id).B, (ι id).off + off, none⟩)
 | .ptr id off, v => v = .pointer (some ⟨(ι id).B, (ι id).off + off, none⟩)
 | .agg xs, v => ∃ cs, v = .agg ⟨cs⟩ ∧ RepAL w F G ι xs cs
 | .tup xs, v => ∃ cs, v = .tuple ⟨cs⟩ ∧ RepAL w F G ι xs cs
 | .fn f first caps, v => ∃ a b, v = .func (.func f) ⟨a⟩ ⟨b⟩ ∧ RepAL w F G ι first a ∧ RepAL w F G ι caps b
 | .inn id r off len, v => r < (ι id).n ∧ ∃ a cap, v = .slice a len cap ∧ len ≤ cap ∧ off + cap = ((ι id).sub r).cap ∧ ((ι id).sub r).cap ≤ maxLen ∧ (cap = 0 ∨ a = some ⟨((ι id).sub r).B, ((ι id).sub r).off + off, none⟩)
 | .iptr id r off, v => r < (ι id).n ∧ v = .pointer (some ⟨((ι id).sub r).B, ((ι id).sub r).off + off, none⟩)
 | .mp id, v => v = .map (some (ι id).B)
 | .prs id len, v => v = .slice (some ⟨(ι id).B, (ι id).off, none⟩) len len
def RepAL (w : World) (F G : Nat → Prop) (ι : Nat → Loc) : List AV → List Value → Prop
 | [], vs => vs = []
 | x :: xs, vs => ∃ v vs', vs = v :: vs' ∧ RepA w F G ι x v ∧ RepAL w F G ι xs vs'
end
mutual
/-- Does a value name block i? -/
def AV.has : AV → Nat → Bool
 | .p _, _ => false
 | .ref id _ _, i => id == i
 | .ptr id _, i => id == i
 | .agg xs, i => AV.hasL xs i
 | .tup xs, i => AV.hasL xs i
 | .fn _ a b, i => AV.hasL a i || AV.hasL b i
 | .inn id _ _ _, i => id == i
 | .iptr id _ _, i => id == i
 | .mp id, i => id == i
 | .prs id _, i => id == i
def AV.hasL : List AV → Nat → Bool
 | [], _ => false
 | x :: xs, i => x.has i || AV.hasL xs i
end
/-- The blocks of memory that a block of the call's own lies in. -/
def owns : Blk → Loc → Nat → Prop
 | .live _ _, l, B => l.cap ≠ 0 ∧ l.B = B
 | .deep _ _ rs, l, B => (l.cap ≠ 0 ∧ l.B = B) ∨ ∃ r c, rs[r]? = some (some c) ∧ (l.sub r).cap ≠ 0 ∧ (l.sub r).B = B
 | .map _ _ _, l, B => l.cap ≠ 0 ∧ l.B = B
 | _, _, _ => False
/-- The blocks that the call holds alone. -/
def Held (h : Nat → Blk) (ι : Nat → Loc) (B : Nat) : Prop := ∃ id, owns (h id) (ι id) B
/-- May rows of the call's own be marked behind their end (as rows of bytes made of strings are)? -/
def SB : Bool := false
theorem sbt : (SB = true) = False := eq_false (by decide)
/-- A row of cells that may be written. -/
def RowAt (w : World) (l : Loc) : Prop :=
 ∃ cs E lo hi, w.heap[l.B]? = some (.cells cs E (lo, hi)) ∧ l.off + l.cap ≤ cs.size ∧ (hi ≤ lo ∨ SB = true ∧ cs.size ≤ lo)
/-- Where a block of the call's own may come from. -/
def Org (w0 : Nat) (M G : Nat → Prop) (m : Bool) (B : Nat) : Prop := (w0 ≤ B ∧ G B) ∨ (m = true ∧ M B)
/-- A row of the call's own. -/
def rowOk (w : World) (F G O : Nat → Prop) (l : Loc) (c : List PV) : Prop :=
 c.length ≤ l.cap ∧ l.cap ≤ maxLen ∧ (l.cap = 0 ∨ (RowAt w l ∧ RepC w F G l.B l.off c ∧ O l.B))
/-- The slice of a whole row. -/
def hdrAt (l : Loc) (len : Nat) (v : Value) : Prop := ∃ a, v = .slice a len l.cap ∧ (l.cap = 0 ∨ a = some ⟨l.B, l.off, none⟩)
def dcRep (w : World) (F G : Nat → Prop) (l : Loc) (rs : List (Option (List PV))) : DC → Value → Prop
 | .v x, v => RepP w F G x v
 | .row r, v => r < rs.length ∧ ∀ c, rs[r]? = some (some c) → hdrAt (l.sub r) c.length v
 | .self o, v => v = .pointer (some ⟨l.B, l.off + o, none⟩)
/-- The entries of a map are as they are told. -/
structure MapOk (w : World) (F G : Nat → Prop) (kt : Value → Prop) (es : List (PV × PV)) (A : Array MapEntry) : Prop where
 keys : ∀ e ∈ A.toList, kt e.key
 apart : A.toList.Pairwise fun e e' => e.key ≠ e'.key
 no : ∀ q, mget es q = none → ∀ e ∈ A.toList, e.key ≠ kV q
 yes : ∀ q x, mget es q = some x → ∃ e ∈ A.toList, e.key = kV q ∧ RepP w F G x e.val
def okB (w : World) (F G : Nat → Prop) (O : Bool → Nat → Prop) : Blk → Loc → Prop
 | .live m c, l => rowOk w F G (O m) l c
 | .froz m c, l => c.length ≤ l.cap ∧ l.cap ≤ maxLen ∧ (c = [] ∨ (¬ F l.B ∧ (m = false → G l.B) ∧ RepC w F G l.B l.off c))
 | .deep m cs rs, l => rs.length = l.n ∧ (cs.length ≤ l.cap ∧ l.cap ≤ maxLen ∧ (l.cap = 0 ∨ (RowAt w l ∧ O m l.B ∧
   ∀ (j : Nat) (x : DC), cs[j]? = some x → ∃ v, w.cell? ⟨l.B, l.off + j, none⟩ = some v ∧ v.oneCell' = true ∧ dcRep w F G l rs x v))) ∧
  (∀ r c, rs[r]? = some (some c) → rowOk w F G (O m) (l.sub r) c) ∧
  (∀ r c r' c', rs[r]? = some (some c) → rs[r']? = some (some c') → r ≠ r' → (l.sub r).cap ≠ 0 → (l.sub r').cap ≠ 0 → (l.sub r).B ≠ (l.sub r').B) ∧
  (∀ r c, rs[r]? = some (some c) → l.cap ≠ 0 → (l.sub r).cap ≠ 0 → (l.sub r).B ≠ l.B)
 | .map m kt es, l => l.cap ≠ 0 ∧ O m l.B ∧ ∃ A clock, w.heap[l.B]? = some (.map A clock) ∧ MapOk w F G kt es A
 | .dead, _ => True
structure HeapOk (w : World) (w0 : Nat) (M : Nat → Prop) (G : Nat → Prop) (h : Nat → Blk) (ι : Nat → Loc) : Prop where
 ok : ∀ id, okB w (Held h ι) G (Org w0 M G) (h id) (ι id)
 apart : ∀ id id' B, owns (h id) (ι id) B → owns (h id') (ι id') B → id = id'
theorem HeapOk.live {w : World} {w0 : Nat} {M G : Nat → Prop} {h : Nat → Blk} {ι : Nat → Loc} (ok : HeapOk w w0 M G h ι) (id : Nat) (m : Bool) (c : List PV) (hl : h id = .live m c) : c.length ≤ (ι id).cap ∧ (ι id).cap ≤ maxLen ∧
  ((ι id).cap = 0 ∨ (RowAt w (ι id) ∧ RepC w (Held h ι) G (ι id).B (ι id).off c ∧ ((w0 ≤ (ι id).B ∧ G (ι id).B) ∨ (m = true ∧ M (ι id).B)))) := by
 have := ok.ok id; rw [hl] at this; exact this
theorem HeapOk.froz {w : World} {w0 : Nat} {M G : Nat → Prop} {h : Nat → Blk} {ι : Nat → Loc} (ok : HeapOk w w0 M G h ι) (id : Nat) (m : Bool) (c : List PV) (hl : h id = .froz m c) : c.length ≤ (ι id).cap ∧ (ι id).cap ≤ maxLen ∧
  (c = [] ∨ (¬ Held h ι (ι id).B ∧ (m = false → G (ι id).B) ∧ RepC w (Held h ι) G (ι id).B (ι id).off c)) := by
 have := ok.ok id; rw [hl] at this; exact this
theorem owns_live {h : Nat → Blk} {ι : Nat → Loc} {id : Nat} {m : Bool} {c : List PV} (hl : h id = .live m c) (hc : (ι id).cap ≠ 0) : owns (h id) (ι id) (ι id).B := by rw [hl]; exact ⟨hc, rfl⟩
theorem HeapOk.sep {w : World} {w0 : Nat} {M G : Nat → Prop} {h : Nat → Blk} {ι : Nat → Loc} (ok : HeapOk w w0 M G h ι) (id : Nat) (m : Bool) (c : List PV) (id' : Nat) (m' : Bool) (c' : List PV) (hl : h id = .live m c) (hl' : h id' = .live m' c')
  (hne : id ≠ id') (h0 : (ι id).cap ≠ 0) (h0' : (ι id').cap ≠ 0) : (ι id).B ≠ (ι id').B :=
 fun e => hne (ok.apart id id' _ (owns_live hl h0) (e ▸ owns_live hl' h0'))
def Arg.av (j : Nat) : Arg → AV
 | .pv x => .p x
 | .mu false c => .ref j 0 (lenC c)
 | .mu true _ => .ptr j 0
def argAVs : Nat → List Arg → List AV
 | _, [] => []
 | j, a :: as => a.av j :: argAVs (j + 1) as
def argH (as : List Arg) (j : Nat) : Blk :=
 match as[j]? with
 | some (.mu _ c) => mkB true c
 | _ => .dead
/-- The blocks lent. -/
def argM (as : List Arg) (ι : Nat → Loc) (B : Nat) : Prop := Held (argH as) ι B
/-- What a result is as a slot's value, and the blocks that come with it: from number k on. -/
def imp1 (k : Nat) : PV → AV
 | .sl .own xs => .ref k 0 xs.length
 | .dl rows => .ref k 0 rows.length
 | .bx _ => .ptr k 0
 | x => .p x
def impW1 (m : Bool) (k : Nat) : PV → List (Nat × Blk)
 | .sl .own xs => [(k, .live m xs)]
 | .dl rows => [(k, .deep m (canon rows.length) (rows.map some))]
 | .bx xs => [(k, .live m xs)]
 | _ => []
def impL (k : Nat) : List PV → List AV
 | [] => []
 | x :: xs => imp1 k x :: impL (k + 1) xs
def impWL (m : Bool) (k : Nat) : List PV → List (Nat × Blk)
 | [] => []
 | x :: xs => impW1 m k x ++ impWL m (k + 1) xs
def imp (k : Nat) : PV → AV
 | .agg xs => .agg (impL (k + 1) xs)
 | x => imp1 k x
def impW (m : Bool) (k : Nat) : PV → List (Nat × Blk)
 | .agg xs => impWL m (k + 1) xs
 | x => impW1 m k x
/-- Several results: the i-th from number k + 16 i on. -/
def imps (k : Nat) : List PV → List AV
 | [] => []
 | x :: xs => imp k x :: imps (k + 16) xs
def impWs (m : Bool) (k : Nat) : List PV → List (Nat × Blk)
 | [] => []
 | x :: xs => impW m k x ++ impWs m (k + 16) xs
def impAll (k : Nat) : List PV → AV
 | [x] => imp k x
 | xs => .tup (imps k xs)
/-- What became of the memory lent (one entry an argument: what it holds now; 'none': it is gone). -/
def outH (as : List Arg) (outs : List (Option (List PV))) (j : Nat) : Blk :=
 match as[j]? with
 | some (.mu _ _) => match outs[j]? with
  | some (some c) => mkB true c
  | _ => .dead
 | _ => .dead
def postH (tk : Bool) (as : List Arg) (outs : List (Option (List PV))) (res : List PV) : Nat → Blk :=
 hwsH (outH as outs) (impWs tk as.length res)
mutual
/-- It leads to no memory but new memory: none that the caller may still write. -/
def noRo : PV → Bool
 | .sl .ro _ => false
 | .sl _ xs => noRoL xs
 | .agg xs => noRoL xs
 | .pc _ | .fn .. | .any => false
 | .dl rows => noRoLL rows
 | .bx xs => noRoL xs
 | _ => true
def noRoL : List PV → Bool
 | [] => true
 | x :: xs => noRo x && noRoL xs
def noRoLL : List (List PV) → Bool
 | [] => true
 | x :: xs => noRoL x && noRoLL xs
end
theorem noRoL_map {α : Type} {f : α → PV} (h : ∀ a, noRo (f a) = true) : ∀ xs : List α, noRoL (xs.map f) = true
 | [] => rfl
 | x :: xs => by simp only [List.map_cons, noRoL, h x, noRoL_map h xs, Bool.and_self]
theorem noRoL_replicate {x : PV} (h : noRo x = true) : ∀ n, noRoL (List.replicate n x) = true
 | 0 => rfl
 | n + 1 => by simp only [List.replicate_succ, noRoL, h, noRoL_replicate h n, Bool.and_self]
/-- Few enough results. -/
def smallP : PV → Bool
 | .agg xs => decide (xs.length ≤ 14)
 | _ => true
def resOk (res : List PV) : Bool := decide (res.length ≤ 15) && res.all smallP
/-- What is told of the program's own tables: cells that nobody writes. -/
class Amb where
 tb : Nat → Option Obj
 /-- Is it told of each call that no draw is taken back? -/
 q : Bool
class AmbOk [Amb] (w : World) (M : Nat → Prop) : Prop where
 ok : ∀ B o, Amb.tb B = some o → w.heap[B]? = some o
 off : ∀ B o, Amb.tb B = some o → ¬ M B
/-- Nothing is told. -/
@[reducible] def noAmb : Amb := ⟨fun _ => none, false⟩
/-- Nothing is told of draws. -/
class NoQ [Amb] : Prop where
 no : Amb.q = false
instance : @NoQ noAmb := @NoQ.mk noAmb rfl
/-- What was there stays, but in the blocks of M. -/
structure Keep [Amb] (w w' : World) (M : Nat → Prop) : Prop where
 os : w'.os = w.os
 tape : w'.tape = w.tape
 output : w'.output = w.output
 size : w.heap.size ≤ w'.heap.size
 block : ∀ k, k < w.heap.size → ¬ M k → w'.heap[k]? = w.heap[k]?
 drawn : Amb.q = true → w.drawn ≤ w'.drawn
/-- Function f, called so, returns so: whatever the world, whatever else is in memory ('tk': a result may lie in memory that was lent). -/
def CallT [Amb] (P : Program) (tk : Bool) (f : FuncId) (as : List Arg) (outs : List (Option (List PV))) (res : List PV) : Prop :=
 (∃ fn, P.funcs[f]? = some fn ∧ fn.body.isSome = true ∧ (fn.name == "runtime.NumGoroutine") = false) ∧ noRoL res = true ∧ resOk res = true ∧ (outs.all fun o => o.all noRoL) = true ∧
 ∀ (w : World) (G : Nat → Prop) (ι : Nat → Loc) (vs : List Value), AmbOk w (argM as ι) → (∀ B, w.heap.size ≤ B → G B) → HeapOk w w.heap.size (argM as ι) G (argH as) ι →
  RepAL w (Held (argH as) ι) G ι (argAVs 0 as) vs →
  Calls P f ⟨vs⟩ w fun e w' => ∃ v ι', e = .returned v ∧ (∀ j, j < as.length → LocEq (ι j) (ι' j)) ∧ Keep w w' (argM as ι) ∧
   HeapOk w' w.heap.size (argM as ι) G (postH tk as outs res) ι' ∧ RepA w' (Held (postH tk as outs res) ι') G ι' (impAll as.length res) v
/-- The common kind: it reads its arguments, it returns; what it returns lies in new memory. -/
def Fun [Amb] (P : Program) (f : FuncId) (args res : List PV) : Prop := CallT P false f (args.map .pv) [] res
end Go.Gl
namespace Go.Gl
open Go
/-- A value that arrives at number k: the nil slice becomes a block of the call's own. -/
def arr (k : Nat) (v : AV) (K : R → Prop) : Prop :=
 match v with
 | .p (.sl .own xs) => K ⟨.ref k 0 xs.length, [(k, .live false xs)], []⟩
 | v => K ⟨v, [], []⟩
def pickW (c a b : AV) (K : AV → Prop) : Prop :=
 match c with
 | .p (.bool t) => match a, b with
  | .p (.bool x), .p (.bool y) => K (.p (.bool (bif t then x else y)))
  | a, b => K (bif t then a else b)
 | _ => False
def lexLt : List UInt8 → List UInt8 → Bool
 | _, [] => false
 | [], _ :: _ => true
 | a :: x, b :: y => a < b || (a == b && lexLt x y)
/-- Whether a slice is nil, where that is known. -/
def nilW (x : AV) (K : Bool → Prop) : Prop :=
 match x with
 | .p .nl => K true
 | .p (.sl .own _) => K true
 | .p (.sl _ xs) => 0 < xs.length ∧ K false
 | .ref _ _ len => 0 < len ∧ K false
 | .inn _ _ _ len => 0 < len ∧ K false
 | _ => False
/-- A slice type whose elements take one cell. -/
def slcT (P : Program) (t : TypeId) : Prop := ∃ e, P.underlying t = some (.slice e)
def binW (P : Program) (op : BinOp) (t : TypeId) (x y : AV) (K : PV → Prop) : Prop :=
 match x, y with
 | .p (.int k a), .p (.int k' b) =>
  match op with
  | .add => k = k' ∧ inR k (a + b) ∧ K (.int k (a + b))
  | .sub => k = k' ∧ inR k (a - b) ∧ K (.int k (a - b))
  | .mul => k = k' ∧ inR k (a * b) ∧ K (.int k (a * b))
  | .quo => k = k' ∧ b ≠ 0 ∧ inR k (a.tdiv b) ∧ K (.int k (a.tdiv b))
  | .rem => k = k' ∧ b ≠ 0 ∧ K (.int k (a.tmod b))
  | .shl => 0 ≤ b ∧ b < k.bits ∧ inR k (a * 2 ^ b.toNat) ∧ K (.int k (a * 2 ^ b.toNat))
  | .shr => 0 ≤ b ∧ b < k.bits ∧ K (.int k (a.fdiv (2 ^ b.toNat)))
  | .and => k = k' ∧ 0 ≤ a ∧ 0 ≤ b ∧ inR k a ∧ inR k b ∧ K (.int k ((a.toNat &&& b.toNat : Nat) : Int))
  | .eql => k = k' ∧ K (.bool (decide (a = b)))
  | .neq => k = k' ∧ K (.bool (!decide (a = b)))
  | .lss => k = k' ∧ K (.bool (decide (a < b)))
  | .leq => k = k' ∧ K (.bool (decide (a ≤ b)))
  | .gtr => k = k' ∧ K (.bool (decide (b < a)))
  | .geq => k = k' ∧ K (.bool (decide (b ≤ a)))
  | _ => False
 | .p (.str a), .p (.str b) =>
  match op with
  | .add => a.length + b.length ≤ 2 ^ 60 ∧ K (.str (a ++ b))
  | .eql => K (.bool (decide (a = b)))
  | .neq => K (.bool (!decide (a = b)))
  | .lss => K (.bool (lexLt a b))
  | _ => False
 | .p (.bool a), .p (.bool b) =>
  match op with
  | .eql => boolT P t = true ∧ K (.bool (a == b))
  | .neq => boolT P t = true ∧ K (.bool (!(a == b)))
  | _ => False
 | x, .p (.sl .own _) =>
  match op with
  | .eql => slcT P t ∧ nilW x fun b => K (.bool b)
  | .neq => slcT P t ∧ nilW x fun b => K (.bool (!b))
  | _ => False
 | _, _ => False
def unW (op : UnOp) (x : AV) (K : PV → Prop) : Prop :=
 match op, x with
 | .not, .p (.bool b) => K (.bool (!b))
 | .neg, .p (.int k a) => inR k (0 - a) ∧ K (.int k (0 - a))
 | _, _ => False
/-- A slice of bytes. -/
def u8T (P : Program) (t : TypeId) : Bool :=
 match P.underlying t with
 | some (.slice e) => match intT P e with
  | some .u8 => true
  | _ => false
 | _ => false
def convW (P : Program) (src dst : TypeId) (k : Nat) (h : Nat → Blk) (x : AV) (K : R → Prop) : Prop :=
 match x with
 | .p (.int _ n) => match intT P dst with
  | some kd => (P.underlying src).isSome = true ∧ inR kd n ∧ K ⟨.p (.int kd n), [], []⟩
  | none => False
 | .p (.str s) => strT P src = true ∧ if strT P dst then K ⟨x, [], []⟩ else
  (slT P dst).isSome = true ∧ u8T P dst = true ∧ s.length ≤ big ∧ SB = true ∧
   K ⟨.ref k 0 s.length, [(k, .live false (s.map fun b => .int .u8 b.toNat))], []⟩
 | x => strT P dst = true ∧ (slT P src).isSome = true ∧ u8T P src = true ∧ cont h x fun xs rd =>
   ∃ s : List UInt8, xs = s.map (fun b => PV.int .u8 b.toNat) ∧ K ⟨.p (.str s), [], rd⟩
def makeW (P : Program) (t : TypeId) (k : Nat) (l c : AV) (K : R → Prop) : Prop :=
 match l, c with
 | .p (.int _ a), .p (.int _ b) => 0 ≤ a ∧ a ≤ b ∧ b ≤ 1099511627776 ∧ (match slT P t with
  | some (_, z) => z.cellOk = true ∧ K ⟨.ref k 0 a.toNat, [(k, .live false (List.replicate a.toNat z))], []⟩
  | none => False)
 | _, _ => False
/-- The parts of a slice's literal, in order, none left out. -/
def partsOk (n : Nat) (parts : Array (Nat × Operand)) : Bool := parts.toList.map (·.1) == List.range n
/-- A slice type whose elements have two cells each. -/
def pairT (P : Program) (t : TypeId) : Bool :=
 match P.underlying t with
 | some (.slice e) => (match P.info? e with
  | some i => i.zero.isSome && decide (i.size = 2)
  | none => false)
 | _ => false
def prC (v : AV) (F : PV → PV → Prop) : Prop :=
 match v with
 | .agg [.p x, .p y] => x.cellOk = true ∧ y.cellOk = true ∧ F x y
 | _ => False
def prL : List AV → (List PV → Prop) → Prop
 | [], K => K []
 | v :: vs, K => prC v fun x y => prL vs fun xs => K (x :: y :: xs)
def buildSliceW (P : Program) (t : TypeId) (n : Nat) (parts : Array (Nat × Operand)) (k : Nat) (ρ : Operand → AV) (h : Nat → Blk) (K : R → Prop) : Prop :=
 if pairT P t = true then partsOk n parts = true ∧ 1 ≤ n ∧ n ≤ 1000000 ∧ prL (parts.toList.map fun p => ρ p.2) fun xs => K ⟨.prs k n, [(k, .live false xs)], []⟩
 else (slT P t).isSome = true ∧ partsOk n parts = true ∧ n ≤ 1000000 ∧ pubs h (parts.toList.map fun p => ρ p.2) fun xs ws rd =>
  K ⟨.ref k 0 n, ws ++ [(k, .live false xs)], rd⟩
/-- A bound of a slice expression. -/
def bnd (ρ : Operand → AV) (x : Option Operand) (d : Nat) (K : Int → Prop) : Prop :=
 match x with
 | none => K d
 | some o => match ρ o with
  | .p (.int _ i) => K i
  | _ => False
def sliceW (P : Program) (t : TypeId) (x : AV) (lo hi mx : Option Operand) (k : Nat) (ρ : Operand → AV) (K : R → Prop) : Prop :=
 match x with
 | .p (.str s) => mx = none ∧ strT P t = true ∧ bnd ρ hi s.length fun h => bnd ρ lo 0 fun l => 0 ≤ l ∧ l ≤ h ∧ h ≤ s.length ∧ K ⟨.p (.str ((s.take h.toNat).drop l.toNat)), [], []⟩
 | .p (.sl o xs) => (slT P t).isSome = true ∧ (match mx with
  | none => bnd ρ hi xs.length fun h => bnd ρ lo 0 fun l => 0 ≤ l ∧ l ≤ h ∧ h ≤ xs.length ∧ K ⟨.p (.sl o ((xs.take h.toNat).drop l.toNat)), [], []⟩
  | some _ => hi ≠ none ∧ bnd ρ mx 0 fun m => bnd ρ hi 0 fun h => bnd ρ lo 0 fun l => l = 0 ∧ h = 0 ∧ m = 0 ∧ K ⟨.ref k 0 0, [(k, .live false [])], []⟩)
 | .ref id off len => (slT P t).isSome = true ∧ (match mx with
  | none => bnd ρ hi len fun h => bnd ρ lo 0 fun l => 0 ≤ l ∧ l ≤ h ∧ h ≤ len ∧ K ⟨.ref id (off + l.toNat) (h.toNat - l.toNat), [], []⟩
  | some _ => hi ≠ none ∧ bnd ρ mx 0 fun m => bnd ρ hi 0 fun h => bnd ρ lo 0 fun l => l = 0 ∧ h = 0 ∧ m = 0 ∧ K ⟨.ref k 0 0, [(k, .live false [])], []⟩)
 | .inn id r off len => (slT P t).isSome = true ∧ (match mx with
  | none => bnd ρ hi len fun h => bnd ρ lo 0 fun l => 0 ≤ l ∧ l ≤ h ∧ h ≤ len ∧ K ⟨.inn id r (off + l.toNat) (h.toNat - l.toNat), [], []⟩
  | some _ => hi ≠ none ∧ bnd ρ mx 0 fun m => bnd ρ hi 0 fun h => bnd ρ lo 0 fun l => l = 0 ∧ h = 0 ∧ m = 0 ∧ K ⟨.ref k 0 0, [(k, .live false [])], []⟩)
 | _ => False
def indexAddrW (P : Program) (t : TypeId) (x i : AV) (K : AV → Prop) : Prop :=
 match i with
 | .p (.int _ i) => match x with
  | .p (.sl _ xs) => (slT P t).isSome = true ∧ gt xs i fun x => K (.p (.pc [x]))
  | .ref id off len => (slT P t).isSome = true ∧ 0 ≤ i ∧ i < len ∧ K (.ptr id (off + i.toNat))
  | .inn id r off len => (slT P t).isSome = true ∧ 0 ≤ i ∧ i < len ∧ K (.iptr id r (off + i.toNat))
  | .ptr id off => (match arrT P t with | some n => 0 ≤ i ∧ i < n ∧ K (.ptr id (off + i.toNat)) | none => False)
  | .prs id len => pairT P t = true ∧ 0 ≤ i ∧ i < len ∧ K (.ptr id (i.toNat * 2))
  | _ => False
 | _ => False
def indexW (P : Program) (t : TypeId) (x i : AV) (K : AV → Prop) : Prop :=
 match i with
 | .p (.int _ i) => match x with
  | .p (.str s) => strT P t = true ∧ gt s i fun b => K (.p (.int .u8 b.toNat))
  | _ => False
 | _ => False
/-- What is loaded from a cell. -/
def DC.av (id : Nat) (rs : List (Option (List PV))) : DC → AV
 | .v x => .p x
 | .row r => match rs[r]? with
  | some (some c) => .inn id r 0 c.length
  | _ => .p .any
 | .self o => .ptr id o
def loadW (P : Program) (t : TypeId) (h : Nat → Blk) (a : AV) (K : R → Prop) : Prop :=
 match szT P t with
 | some (n, false) => n = 1 ∧ (match a with
  | .p (.pc (x :: _)) => K ⟨.p x, [], []⟩
  | .ptr id off => match h id with
   | .live _ c => gt c off fun x => K ⟨.p x, [], [id]⟩
   | .froz _ c => gt c off fun x => K ⟨.p x, [], [id]⟩
   | .deep _ cs rs => gt cs off fun x => K ⟨x.av id rs, [], [id]⟩
   | _ => False
  | .iptr id r off => match h id with
   | .deep _ _ rs => (match rs[r]? with
    | some (some c) => gt c off fun x => K ⟨.p x, [], [id]⟩
    | _ => False)
   | _ => False
  | _ => False)
 | some (n, true) => (match a with
  | .p (.pc xs) => n ≤ xs.length ∧ K ⟨.p (.agg (xs.take n)), [], []⟩
  | .ptr id off => match h id with
   | .live _ c => off + n ≤ c.length ∧ K ⟨.p (.agg ((c.drop off).take n)), [], [id]⟩
   | .froz _ c => off + n ≤ c.length ∧ K ⟨.p (.agg ((c.drop off).take n)), [], [id]⟩
   | .deep _ cs rs => off + n ≤ cs.length ∧ K ⟨.agg (((cs.drop off).take n).map (DC.av id rs)), [], [id]⟩
   | _ => False
  | _ => False)
 | none => False
/-- The cells of a value that is laid into memory. -/
def cellsW (h : Nat → Blk) (v : AV) (K : List PV → List (Nat × Blk) → List Nat → Prop) : Prop :=
 match v with
 | .p (.agg xs) => xs.all (fun x => x.cell.cellOk) = true ∧ K (xs.map PV.cell) [] []
 | .agg vs => pubs h vs K
 | v => pub h v fun x ws rd => K [x] ws rd
/-- A value moved into a block whose rows are the call's own: what its cell holds, the rows, what becomes of the block that it came from. -/
def mvW (h : Nat → Blk) (mt : Bool) (id : Nat) (v : AV) (rs : List (Option (List PV))) (K : DC → List (Option (List PV)) → List (Nat × Blk) → List Nat → Prop) : Prop :=
 match v with
 | .p x => x.cellOk = true ∧ K (.v x) rs [] [] ∨ x = .sl .own [] ∧ K (.v x) rs [] []
 | .ref j off len => j ≠ id ∧ (match h j with
  | .live m c => (m = true → mt = true) ∧ off = 0 ∧ len = c.length ∧ K (.row rs.length) (rs ++ [some c]) [(j, .dead)] [j]
  | .froz m c => off + len ≤ c.length ∧ K (.v (.sl (.lent m) ((c.drop off).take len))) rs [] [j]
  | _ => False)
 | .inn j r off len => off = 0 ∧ if j = id then (match rs[r]? with
   | some (some c) => len = c.length ∧ K (.row r) rs [] []
   | _ => False)
  else (match h j with
   | .deep false cs' rs' => (match rs'[r]? with
    | some (some c) => len = c.length ∧ K (.row rs.length) (rs ++ [some c]) [(j, .deep false cs' (rs'.set r none))] [j]
    | _ => False)
   | _ => False)
 | .ptr j o => j = id ∧ K (.self o) rs [] []
 | _ => False
/-- Some values, one behind the other. -/
def mvsW (h : Nat → Blk) (mt : Bool) (id : Nat) : List AV → List (Option (List PV)) → (List DC → List (Option (List PV)) → List (Nat × Blk) → List Nat → Prop) → Prop
 | [], rs, K => K [] rs [] []
 | v :: vs, rs, K => mvW h mt id v rs fun x rs ws rd => mvsW (hwsH h ws) mt id vs rs fun xs rs ws' rd' => K (x :: xs) rs (ws ++ ws') (rd ++ rd')
def agAVs : AV → List AV
 | .p (.agg xs) => xs.map .p
 | .agg vs => vs
 | v => [v]
/-- A plain value laid into a cell of a row. -/
def rowW (h : Nat → Blk) (id r off : Nat) (v : AV) (K : R → Prop) : Prop :=
 match v with
 | .p x => x.cell.cellOk = true ∧ (match h id with
  | .deep m cs rs => (match rs[r]? with
   | some (some c) => off < c.length ∧ K ⟨.p .any, [(id, .deep m cs (rs.set r (some (c.set off x.cell))))], [id]⟩
   | _ => False)
  | _ => False)
 | _ => False
def storeW (P : Program) (t : TypeId) (h : Nat → Blk) (a v : AV) (K : R → Prop) : Prop :=
 match szT P t with
 | some (n, _) => (match a with
  | .ptr id off => match h id with
   | .live m c => cellsW h v fun xs ws rd => xs.length = n ∧ off + n ≤ c.length ∧ id ∉ rd ∧
     K ⟨.p .any, ws ++ [(id, .live m (c.take off ++ xs ++ c.drop (off + n)))], id :: rd⟩
   | .deep m cs rs => mvsW h m id (agAVs v) rs fun xs rs ws rd => xs.length = n ∧ off + n ≤ cs.length ∧
     K ⟨.p .any, ws ++ [(id, .deep m (cs.take off ++ xs ++ cs.drop (off + n)) rs)], id :: rd⟩
   | _ => False
  | .iptr id r off => n = 1 ∧ rowW h id r off v K
  | _ => False)
 | none => False
def allocW (P : Program) (t : TypeId) (k : Nat) (K : R → Prop) : Prop :=
 match zeroT P t with
 | some xs => xs ≠ [] ∧ xs.length ≤ 1000000 ∧ xs.all PV.cellOk = true ∧ K ⟨.ptr k 0, [(k, .live false xs)], []⟩
 | none => False
def boxW (h : Nat → Blk) (k : Nat) (v : AV) (K : R → Prop) : Prop :=
 cellsW h v fun xs ws rd => xs ≠ [] ∧ xs.length ≤ 1000000 ∧ K ⟨.ptr k 0, ws ++ [(k, .live false xs)], rd⟩
def AV.nth (xs : List AV) (i : Nat) (K : AV → Prop) : Prop := match xs[i]? with | some x => K x | none => False
def fieldW (P : Program) (t : TypeId) (f : Nat) (v : AV) (K : AV → Prop) : Prop :=
 match fldT P t f with
 | some (off, 1, false) => (match v with
  | .p (.agg xs) => gt xs off fun x => K (.p x)
  | .agg xs => AV.nth xs off K
  | _ => False)
 | _ => False
def fieldAddrW (P : Program) (t : TypeId) (f : Nat) (a : AV) (K : AV → Prop) : Prop :=
 match fldT P t f with
 | some (off, n, _) => n ≠ 0 ∧ (match a with
  | .p (.pc xs) => K (.p (.pc (xs.drop off)))
  | .ptr id o => K (.ptr id (o + off))
  | _ => False)
 | none => False
/-- The places of a struct's parts, each of one cell. -/
def placesT (P : Program) (t : TypeId) : Option (List Nat) :=
 match P.underlying t with
 | some (.struct fs) => fs.toList.mapM fun f => match szT P f.type with | some (1, _) => some f.offset | _ => none
 | some (.array n e) => match P.info? e with
  | some i => if i.size = 1 then some (List.range n) else none
  | none => none
 | _ => none
/-- It fills one cell. -/
def AV.one1 : AV → Prop
 | .p (.agg _) | .p .any | .agg _ | .tup _ => False
 | _ => True
def fillW (places : List Nat) (cells : List AV) : List (Nat × AV) → (List AV → Prop) → Prop
 | [], K => K cells
 | (i, v) :: rest, K => match places[i]? with
  | some o => o < cells.length ∧ v.one1 ∧ fillW places (cells.set o v) rest K
  | none => False
def buildW (P : Program) (t : TypeId) (parts : List (Nat × AV)) (K : AV → Prop) : Prop :=
 match placesT P t, zeroT P t with
 | some places, some zs => fillW places (zs.map .p) parts fun cs => K (.agg cs)
 | _, _ => False
def lenW (P : Program) (t : TypeId) (x : AV) (K : AV → Prop) : Prop :=
 match x with
 | .p (.str s) => strT P t = true ∧ K (.p (.int .i64 s.length))
 | .p (.sl _ xs) => (slT P t).isSome = true ∧ K (.p (.int .i64 xs.length))
 | .ref _ _ len => (slT P t).isSome = true ∧ K (.p (.int .i64 len))
 | .inn _ _ _ len => (slT P t).isSome = true ∧ K (.p (.int .i64 len))
 | .prs _ len => pairT P t = true ∧ K (.p (.int .i64 len))
 | _ => False
def DC.up (n : Nat) : DC → DC
 | .row r => .row (n + r)
 | x => x
def DC.noSelf : DC → Bool
 | .self _ => false
 | _ => true
/-- A slice whose rows are its own too, one put behind another. -/
def appendD (h : Nat → Blk) (k : Nat) (s x : AV) (K : R → Prop) : Prop :=
 match x with
 | .ref j 0 n => (match h j with
  | .deep false cs' rs' => n = cs'.length ∧ cs'.all DC.noSelf = true ∧ (match s with
   | .ref id 0 len => id ≠ j ∧ (match h id with
    | .deep m cs rs => len = cs.length ∧ cs.all DC.noSelf = true ∧ len + n ≤ 1099511627776 ∧
      K ⟨.ref k 0 (len + n), [(j, .dead), (id, .dead), (k, .deep m (cs ++ cs'.map (DC.up rs.length)) (rs ++ rs'))], [id, j]⟩
    | _ => False)
   | .p (.sl .own []) => n ≤ 1099511627776 ∧ K ⟨.ref k 0 n, [(j, .dead), (k, .deep false cs' rs')], [j]⟩
   | _ => False)
  | _ => False)
 | _ => False
def isDeep (h : Nat → Blk) : AV → Bool
 | .ref j _ _ => match h j with
  | .deep .. => true
  | _ => false
 | _ => false
def appendW (P : Program) (t t' : TypeId) (h : Nat → Blk) (k : Nat) (s x : AV) (K : R → Prop) : Prop :=
 (slT P t).isSome = true ∧ ((slT P t').isSome = true ∨ strT P t' = true) ∧ (if isDeep h x = true then appendD h k s x K else cont h x fun ys rd => (match s with
 | .ref id off len => match h id with
  | .live m c => len + ys.length ≤ 1099511627776 ∧ off + len ≤ c.length ∧
    (if off + len = c.length then K ⟨.ref k 0 (len + ys.length), [(id, .dead), (k, .live m (c.drop off ++ ys))], id :: rd⟩
    else if off + len + ys.length ≤ c.length then K ⟨.ref k off (len + ys.length), [(id, .dead), (k, .live m (c.take (off + len) ++ ys ++ c.drop (off + len + ys.length)))], id :: rd⟩
    else K ⟨.ref k 0 (len + ys.length), [(id, .dead), (k, .live m ((c.drop off).take len ++ ys))], id :: rd⟩)
  | _ => False
 | .p (.sl .own []) => ys.length ≤ 1099511627776 ∧ K ⟨.ref k 0 ys.length, [(k, .live false ys)], rd⟩
 | .inn id r 0 len => (match h id with
  | .deep m cs rs => (match rs[r]? with
   | some (some c) => len = c.length ∧ id ∉ rd ∧ len + ys.length ≤ 1099511627776 ∧
     K ⟨.ref k 0 (len + ys.length), [(id, .deep m cs (rs.set r none)), (k, .live m (c ++ ys))], id :: rd⟩
   | _ => False)
  | _ => False)
 | _ => False))
def mmW (max : Bool) (x y : AV) (K : AV → Prop) : Prop :=
 match x, y with
 | .p (.int k a), .p (.int k' b) => k = k' ∧ K (.p (.int k (if max then (if a < b then b else a) else (if b < a then b else a))))
 | _, _ => False
/-- The arguments of a call: those that 'sg' marks are lent. (What was lent: a whole block, or one of its rows.) -/
def pass (h : Nat → Blk) : List Bool → List AV → (List Arg → List Nat → List (Option (Nat × Option Nat)) → Prop) → Prop
 | _, [], K => K [] [] []
 | true :: sg, v :: vs, K => (match v with
  | .ref id 0 len => match h id with
   | .live _ c => len = c.length ∧ pass h sg vs fun as rd ms => K (.mu false c :: as) rd (some (id, none) :: ms)
   | .deep _ cs rs => (∃ rows, cs = canon rows.length ∧ rs = rows.map some ∧ len = rows.length ∧ pass h sg vs fun as rd ms => K (.mu false [.dl rows] :: as) rd (some (id, none) :: ms)) ∨
     ∃ rows : List (List PV), 0 < rows.length ∧ cs = canonS rows.length ∧ rs = List.replicate rows.length none ++ rows.map some ∧ len = rows.length ∧ pass h sg vs fun as rd ms => K (.mu false [.dl rows] :: as) rd (some (id, some (rows.length + rows.length)) :: ms)
   | _ => False
  | .ptr id 0 => match h id with
   | .live _ c => pass h sg vs fun as rd ms => K (.mu true c :: as) rd (some (id, none) :: ms)
   | _ => False
  | .inn id r 0 len => match h id with
   | .deep _ _ rs => (match rs[r]? with
    | some (some c) => len = c.length ∧ pass h sg vs fun as rd ms => K (.mu false c :: as) rd (some (id, some r) :: ms)
    | _ => False)
   | _ => False
  | .p (.sl .own []) => pass h sg vs fun as rd ms => K (.pv (.sl .own []) :: as) rd (none :: ms)
  | _ => False)
 | sg, v :: vs, K => pur h v fun x rd => pass h sg.tail vs fun as rd' ms => K (.pv x :: as) (rd ++ rd') (none :: ms)
def outB : Option Nat → Option (Option (List PV)) → Blk → Blk
 | none, some (some [.dl rows]), .deep m _ rs => if rows.length = rs.length then .deep m (canon rows.length) (rows.map some) else .dead
 | none, some (some [.dl _]), _ => .dead
 | none, some (some c), .live m _ => .live m c
 | some r, some (some [.dl _]), .deep m cs rs => if r < rs.length then .deep m cs (rs.set r none) else .dead
 | some r, some (some c), .deep m cs rs => if r < rs.length then (if (rs.getD r none).map List.length = some c.length then .deep m cs (rs.set r (some c)) else .deep m cs (rs.set r none)) else .dead
 | some r, _, .deep m cs rs => if r < rs.length then .deep m cs (rs.set r none) else .dead
 | _, _, _ => .dead
/-- What becomes of the blocks that were lent. -/
def outWs (h : Nat → Blk) (outs : List (Option (List PV))) : Nat → List (Option (Nat × Option Nat)) → List (Nat × Blk)
 | _, [] => []
 | j, none :: ms => outWs h outs (j + 1) ms
 | j, some (id, r) :: ms => (id, outB r outs[j]? (h id)) :: outWs h outs (j + 1) ms
def lids (ms : List (Option (Nat × Option Nat))) : List Nat := ms.filterMap fun m => m.map (·.1)
/-- No block lent twice, none lent and read. -/
def lentOk (ms : List (Option (Nat × Option Nat))) (rd : List Nat) : Prop :=
 (lids ms).Nodup ∧ ∀ i ∈ lids ms, i ∉ rd
/-- May it be memory that a caller lent? -/
def flg : Blk → Bool
 | .live m _ => m
 | .deep m _ _ => m
 | .map m _ _ => m
 | _ => false
/-- All that is lent is the call's own. -/
def lentF (h : Nat → Blk) (ms : List (Option (Nat × Option Nat))) : Prop := ∀ i ∈ lids ms, flg (h i) = false
def callV [Amb] (P : Program) (sg : FuncId → List Bool) (h : Nat → Blk) (k : Nat) (f : FuncId) (vs : List AV) (K : R → Prop) : Prop :=
 pass h (sg f) vs fun as rd ms => lentOk ms rd ∧ ∃ tk outs res, CallT P tk f as outs res ∧ ∃ t, (t = false → tk = true → lentF h ms) ∧
  K ⟨impAll k res, outWs h outs 0 ms ++ impWs t k res, lids ms ++ rd⟩
/-- Slices of the call's own that are handed on for good: which blocks are looked at, which are frozen. -/
def frzR : List Bool → List AV → List Nat
 | true :: fs, .ref id _ _ :: vs => id :: frzR fs vs
 | _ :: fs, _ :: vs => frzR fs vs
 | _, _ => []
def frzB (b : Blk) (id : Nat) (ws : List (Nat × Blk)) : List (Nat × Blk) :=
 match b with
 | .live m c => (id, .froz m c) :: ws
 | _ => ws
def frzW (h : Nat → Blk) : List Nat → List (Nat × Blk)
 | [] => []
 | id :: l => frzB (h id) id (frzW h l)
def callU [Amb] (P : Program) (sg : FuncId → List Bool) (h : Nat → Blk) (k : Nat) (f : FuncId) (vs : List AV) (K : R → Prop) : Prop :=
 callV P sg (hwsH h (frzW h (frzR (sg (f + 8589934592)) vs))) k f vs fun r => K ⟨r.v, frzW h (frzR (sg (f + 8589934592)) vs) ++ r.ws, frzR (sg (f + 8589934592)) vs ++ r.rd⟩
/-- A function that turns a slice of numbers in place: nothing else is touched. -/
def InPl (P : Program) (f : FuncId) (g : List Int → List Int) : Prop :=
 (∃ fn, P.funcs[f]? = some fn ∧ fn.body.isSome = true ∧ (fn.name == "runtime.NumGoroutine") = false) ∧ (∀ l, (g l).length = l.length) ∧
 (∀ (w : World) (a : Option Addr) (cap : Nat), Calls P f #[.slice a 0 cap] w fun e w' => e = .returned (.tuple #[]) ∧ ∃ d, w.drawn ≤ d ∧ w' = { w with drawn := d }) ∧
 ∀ (w : World) (B off cap : Nat) (l : List Int) (cs : Array Value) (E : TypeId) (lo hi : Nat), w.heap[B]? = some (.cells cs E (lo, hi)) → off + l.length ≤ cs.size → (hi ≤ lo ∨ cs.size ≤ lo) → l.length ≤ maxLen → (∀ j x, l[j]? = some x → cs[off + j]? = some (.int .i64 x)) →
  Calls P f #[.slice (some ⟨B, off, none⟩) l.length cap] w fun e w' => e = .returned (.tuple #[]) ∧ ∃ d, w.drawn ≤ d ∧ w' = { w.setRow B (cs.toList.take off ++ (g l).map (Value.int .i64) ++ cs.toList.drop (off + l.length)).toArray with drawn := d }
/-- A function that puts the rows of a slice into an order: their headers are moved about, nothing else is touched. -/
def SrtD (P : Program) (f g : FuncId) (srt : List (List Int) → List (List Int)) : Prop :=
 (∃ fn, P.funcs[f]? = some fn ∧ fn.body.isSome = true ∧ (fn.name == "runtime.NumGoroutine") = false) ∧
 ∀ (w : World) (B off cap : Nat) (L : List (List Int)) (hd : Nat → Value) (cs : Array Value) (E : TypeId) (lo hi : Nat), w.heap[B]? = some (.cells cs E (lo, hi)) → off + L.length ≤ cs.size → (hi ≤ lo ∨ cs.size ≤ lo) → 0 < L.length → L.length ≤ 1048576 → (∀ l ∈ L, l.length ≤ 1048576) →
  (∀ j, j < L.length → cs[off + j]? = some (hd j) ∧ (hd j).oneCell' = true ∧ RepP w (fun B' => B' = B) (fun _ => True) (.sl .ro ((L.getD j []).map (PV.int .i64))) (hd j)) →
  Calls P f #[.slice (some ⟨B, off, none⟩) L.length cap, .func (.func g) #[] #[]] w fun e w' => e = .returned (.tuple #[]) ∧ ∃ s : List Nat, s.Perm (List.range L.length) ∧ srt L = s.map (fun i => L.getD i []) ∧ w'.os = w.os ∧ w'.tape = w.tape ∧ w'.output = w.output ∧
   w.heap.size ≤ w'.heap.size ∧ w.drawn ≤ w'.drawn ∧ (∀ k, k < w.heap.size → k ≠ B → w'.heap[k]? = w.heap[k]?) ∧ ∃ cs', w'.heap[B]? = some (.cells cs' E (lo, hi)) ∧ cs'.size = cs.size ∧ ∀ j, j < L.length → cs'[off + j]? = some (hd (s.getD j 0))
/-- A call of such a function. -/
def inplW (P : Program) (h : Nat → Blk) (f : FuncId) (vs : List AV) (K : R → Prop) : Prop :=
 match vs with
 | [.ref id off len] => match h id with
  | .live m c => off + len ≤ c.length ∧ ∃ g, InPl P f g ∧ ∃ l : List Int, (c.drop off).take len = l.map (PV.int .i64) ∧ K ⟨.p .any, [(id, .live m (c.take off ++ (g l).map (PV.int .i64) ++ c.drop (off + len)))], [id]⟩
  | _ => False
 | [.ref id 0 len, .p (.fn g [] [])] => match h id with
  | .deep m cs rs => ∃ L : List (List Int), 0 < L.length ∧ L.length ≤ 1048576 ∧ (∀ l ∈ L, l.length ≤ 1048576) ∧ cs = canon L.length ∧ rs = (L.map fun l => some (l.map (PV.int .i64))) ∧ len = L.length ∧
    ∃ srt, SrtD P f g srt ∧ K ⟨.p .any, [(id, .deep m (canonS L.length) (List.replicate L.length none ++ (srt L).map fun l => some (l.map (PV.int .i64))))], [id]⟩
  | _ => False
 | _ => False
def callW [Amb] (P : Program) (sg : FuncId → List Bool) (h : Nat → Blk) (k : Nat) (f : FuncId) (vs : List AV) (K : R → Prop) : Prop :=
 if (sg (f + 12884901888)).isEmpty = true then callU P sg h k f vs K else inplW P h f vs K
/-- The capacity of the nil slice. -/
def capW (P : Program) (t : TypeId) (x : AV) (K : AV → Prop) : Prop :=
 match x with
 | .p (.sl .own []) => (slT P t).isSome = true ∧ K (.p (.int .i64 0))
 | _ => False
/-- A slice's elements set to zero. -/
def clearW (P : Program) (t : TypeId) (h : Nat → Blk) (x : AV) (K : R → Prop) : Prop :=
 match x with
 | .ref id off len => match slT P t, h id with
  | some (_, z), .live m c => off + len ≤ c.length ∧ z.cellOk = true ∧ K ⟨.p .any, [(id, .live m (c.take off ++ List.replicate len z ++ c.drop (off + len)))], [id]⟩
  | some (_, z), .deep m cs rs => z = .sl .fr [] ∧ off + len ≤ cs.length ∧ K ⟨.p .any, [(id, .deep m (cs.take off ++ List.replicate len (.v (.sl .own [])) ++ cs.drop (off + len)) rs)], [id]⟩
  | _, _ => False
 | _ => False
/-! ### maps -/
/-- A nil slice stays one. -/
def nlz : PV → PV
 | .sl .own [] => .nl
 | x => x
/-- A map's type: the type of its keys, what it gives where there is none. -/
def mapT (P : Program) (t : TypeId) : Option (TypeId × PV) :=
 match P.underlying t with
 | some (.map k e) => match P.info? e with
  | some i => match i.zero with
   | some z => some (k, nlz (ofConst z))
   | none => none
  | none => none
 | _ => none
/-- The keys of a type. -/
def kOf (P : Program) (k : TypeId) : Value → Prop := fun v => ∃ l, keyOf P k v = some l
def keyP1 : PV → Bool
 | .int _ _ | .bool _ | .str _ => true
 | _ => false
def keyP : PV → Bool
 | .agg xs => xs.all keyP1
 | x => keyP1 x
def asKL : List AV → Option (List PV)
 | [] => some []
 | .p x :: xs => (asKL xs).map (x :: ·)
 | _ => none
def asK : AV → Option PV
 | .p x => some x
 | .agg xs => (asKL xs).map .agg
 | _ => none
def lkV (z : PV) (c : Bool) : Option PV → AV
 | some x => if c then .tup [.p x, .p (.bool true)] else .p x
 | none => if c then .tup [.p z, .p (.bool false)] else .p z
def makeMapW (P : Program) (t : TypeId) (r : Option Operand) (k : Nat) (K : R → Prop) : Prop :=
 r = none ∧ match mapT P t with
 | some (kt, _) => K ⟨.mp k, [(k, .map false (kOf P kt) [])], []⟩
 | none => False
def lookupW (P : Program) (t : TypeId) (h : Nat → Blk) (m k : AV) (c : Bool) (K : R → Prop) : Prop :=
 match mapT P t, m, asK k with
 | some (kt, z), .mp id, some q => (match h id with
  | .map _ kt' es => kt' = kOf P kt ∧ Maps.Keyed P kt ∧ keyP q = true ∧ kOf P kt (kV q) ∧ K ⟨lkV z c (mget es q), [], [id]⟩
  | _ => False)
 | _, _, _ => False
def updateW (P : Program) (t : TypeId) (h : Nat → Blk) (m k v : AV) (K : R → Prop) : Prop :=
 match mapT P t, m, asK k with
 | some (kt, _), .mp id, some q => (match h id with
  | .map b kt' es => kt' = kOf P kt ∧ Maps.Keyed P kt ∧ keyP q = true ∧ kOf P kt (kV q) ∧ pub h v fun x ws rd => id ∉ rd ∧ K ⟨.p .any, ws ++ [(id, .map b kt' ((q, x) :: es))], id :: rd⟩
  | _ => False)
 | _, _, _ => False
def opB [Amb] (P : Program) (sg : FuncId → List Bool) (ρ : Operand → AV) (h : Nat → Blk) (k : Nat) (op : Op) (K : R → Prop) : Prop :=
 match op with
 | .move x => arr k (ρ x) K
 | .assign x => arr k (ρ x) K
 | .pick c a b => pickW (ρ c) (ρ a) (ρ b) fun v => arr k v K
 | .binOp op t x y _ => binW P op t (ρ x) (ρ y) fun v => K ⟨.p v, [], []⟩
 | .unOp op _ x => unW op (ρ x) fun v => K ⟨.p v, [], []⟩
 | .convert src dst x => convW P src dst k h (ρ x) K
 | .makeSlice t l c => makeW P t k (ρ l) (ρ c) K
 | .buildSlice t n parts => buildSliceW P t n parts k ρ h K
 | .slice t x lo hi mx => sliceW P t (ρ x) lo hi mx k ρ K
 | .indexAddr t x i => indexAddrW P t (ρ x) (ρ i) fun v => K ⟨v, [], []⟩
 | .index t x i => indexW P t (ρ x) (ρ i) fun v => K ⟨v, [], []⟩
 | .load t a => loadW P t h (ρ a) K
 | .store t a v => storeW P t h (ρ a) (ρ v) K
 | .alloc t => allocW P t k K
 | .box _ v => boxW h k (ρ v) K
 | .build t parts => buildW P t (parts.toList.map fun p => (p.1, ρ p.2)) fun v => K ⟨v, [], []⟩
 | .field t v f => fieldW P t f (ρ v) fun v => arr k v K
 | .fieldAddr t a f => fieldAddrW P t f (ρ a) fun v => K ⟨v, [], []⟩
 | .extract t i => (match ρ t with | .tup xs => AV.nth xs i fun v => arr k v K | _ => False)
 | .nilCheck x => (match ρ x with | .ptr id off => K ⟨.ptr id off, [], []⟩ | .p (.pc xs) => K ⟨.p (.pc xs), [], []⟩ | .p (.fn f a b) => K ⟨.p (.fn f a b), [], []⟩ | .fn f a b => K ⟨.fn f a b, [], []⟩ | _ => False)
 | .makeMap t r => makeMapW P t r k K
 | .lookup t m x c => lookupW P t h (ρ m) (ρ x) c K
 | .mapUpdate t m x v => updateW P t h (ρ m) (ρ x) (ρ v) K
 | .insert t m x v => updateW P t h (ρ m) (ρ x) (ρ v) K
 | .makeFunc (.func f) first caps => K ⟨.fn f (first.toList.map ρ) (caps.toList.map ρ), [], []⟩
 | .call { callee := .builtin .len, args := ⟨[x]⟩, argTypes := ⟨[t]⟩ } => lenW P t (ρ x) fun v => K ⟨v, [], []⟩
 | .call { callee := .builtin .append, args := ⟨[s, x]⟩, argTypes := ⟨[t, t']⟩ } => appendW P t t' h k (ρ s) (ρ x) K
 | .call { callee := .builtin .max, args := ⟨[x, y]⟩, .. } => mmW true (ρ x) (ρ y) fun v => K ⟨v, [], []⟩
 | .call { callee := .builtin .min, args := ⟨[x, y]⟩, .. } => mmW false (ρ x) (ρ y) fun v => K ⟨v, [], []⟩
 | .call { callee := .builtin .cap, args := ⟨[x]⟩, argTypes := ⟨[t]⟩ } => capW P t (ρ x) fun v => K ⟨v, [], []⟩
 | .call { callee := .builtin .clear, args := ⟨[x]⟩, argTypes := ⟨[t]⟩ } => clearW P t h (ρ x) K
 | .call { callee := .value f, args := ⟨args⟩, .. } => (match ρ f with
  | .p (.fn g first caps) => callW P sg h k g (first.map .p ++ args.map ρ ++ caps.map .p) K
  | .fn g first caps => callW P sg h k g (first ++ args.map ρ ++ caps) K
  | _ => False)
 | _ => False
/-- Bits of two numbers, as the machine has them. -/
def andI (k : IntKind) (x y : Int) : Int := k.wrap (BitVec.ofInt k.bits x &&& BitVec.ofInt k.bits y).toNat
def xorI (k : IntKind) (x y : Int) : Int := k.wrap (BitVec.ofInt k.bits x ^^^ BitVec.ofInt k.bits y).toNat
/-- Sums, differences and products that may go round. -/
def binX (op : BinOp) (x y : AV) (K : PV → Prop) : Prop :=
 match x, y with
 | .p (.int k a), .p (.int k' b) =>
  match op with
  | .add => k = k' ∧ K (.int k (k.wrap (a + b)))
  | .sub => k = k' ∧ K (.int k (k.wrap (a - b)))
  | .mul => k = k' ∧ K (.int k (k.wrap (a * b)))
  | .and => k = k' ∧ K (.int k (andI k a b))
  | .xor => k = k' ∧ K (.int k (xorI k a b))
  | _ => False
 | _, _ => False
/-- A slice of a block of the call's own, beyond its length too; or one whose room is bounded (nothing is told of that). -/
def sliceX (P : Program) (t : TypeId) (x : AV) (lo hi mx : Option Operand) (h : Nat → Blk) (ρ : Operand → AV) (K : R → Prop) : Prop :=
 match x with
 | .ref id off len => match h id with
  | .live _ c => (slT P t).isSome = true ∧ off + len ≤ c.length ∧ (match mx with
   | none => bnd ρ hi len fun h => bnd ρ lo 0 fun l => 0 ≤ l ∧ l ≤ h ∧ off + h.toNat ≤ c.length ∧ K ⟨.ref id (off + l.toNat) (h.toNat - l.toNat), [], [id]⟩
   | some _ => hi ≠ none ∧ bnd ρ mx 0 fun m => bnd ρ hi 0 fun h => bnd ρ lo 0 fun l => 0 ≤ l ∧ l ≤ h ∧ h ≤ m ∧ m ≤ len ∧ K ⟨.p .any, [], [id]⟩)
  | _ => False
 | _ => False
/-- A type whose value holds a slice. -/
def nestT (P : Program) (t : TypeId) : Bool :=
 match slT P t with
 | some (_, .sl .fr []) => true
 | _ => false
/-- A new slice of slices, each its own row. -/
def buildSliceD (P : Program) (t : TypeId) (n : Nat) (parts : Array (Nat × Operand)) (k : Nat) (ρ : Operand → AV) (h : Nat → Blk) (K : R → Prop) : Prop :=
 (slT P t).isSome = true ∧ partsOk n parts = true ∧ n ≤ 1000000 ∧ mvsW h false k (parts.toList.map fun p => ρ p.2) [] fun xs rs ws rd => xs.all DC.noSelf = true ∧
  K ⟨.ref k 0 n, ws ++ [(k, .deep false xs rs)], rd⟩
def makeD (P : Program) (t : TypeId) (k : Nat) (l c : AV) (K : R → Prop) : Prop :=
 match l, c with
 | .p (.int _ a), .p (.int _ b) => 0 ≤ a ∧ a ≤ b ∧ b ≤ 1099511627776 ∧ nestT P t = true ∧ K ⟨.ref k 0 a.toNat, [(k, .deep false (List.replicate a.toNat (.v (.sl .own []))) [])], []⟩
 | _, _ => False
def isNilP : PV → Bool
 | .sl .fr [] => true
 | _ => false
/-- A new variable that holds slices. -/
def allocD (P : Program) (t : TypeId) (k : Nat) (K : R → Prop) : Prop :=
 match zeroT P t with
 | some xs => xs ≠ [] ∧ xs.length ≤ 1000000 ∧ xs.all isNilP = true ∧ K ⟨.ptr k 0, [(k, .deep false (xs.map fun _ => .v (.sl .own [])) [])], []⟩
 | none => False
def boxD (h : Nat → Blk) (k : Nat) (v : AV) (K : R → Prop) : Prop :=
 mvsW h false k (agAVs v) [] fun xs rs ws rd => xs ≠ [] ∧ xs.all DC.noSelf = true ∧ xs.length ≤ 1000000 ∧ K ⟨.ptr k 0, ws ++ [(k, .deep false xs rs)], rd⟩
/-- A struct all of whose parts are slices: the places of its parts, how many. -/
def nilsT (P : Program) (t : TypeId) : Option (List Nat × Nat) :=
 match placesT P t, zeroT P t with
 | some places, some zs => if zs.all isNilP = true then some (places, zs.length) else none
 | _, _ => none
/-- New nil slices of the call's own. -/
def nilWs (k n : Nat) : List (Nat × Blk) := (List.range n).map fun i => (k + i, .live false [])
/-- A struct's value, the slices that it leaves out being the call's own. -/
def buildN (P : Program) (t : TypeId) (parts : List (Nat × AV)) (k : Nat) (K : R → Prop) : Prop :=
 match nilsT P t with
 | some (places, n) => n ≤ 64 ∧ fillW places ((List.range n).map fun i => .ref (k + i) 0 0) parts fun cs => K ⟨.agg cs, nilWs k n, []⟩
 | none => False
/-- A nil slice that stays one. -/
def nlW (v : AV) (K : R → Prop) : Prop :=
 match v with
 | .p (.sl .own _) => K ⟨.p .nl, [], []⟩
 | _ => False
/-- The wider ways, for a body that asks for them. -/
def opE (P : Program) (ρ : Operand → AV) (h : Nat → Blk) (op : Op) (K : R → Prop) : Prop :=
 match op with
 | .binOp op _ x y _ => binX op (ρ x) (ρ y) fun v => K ⟨.p v, [], []⟩
 | .slice t x lo hi mx => sliceX P t (ρ x) lo hi mx h ρ K
 | .call { callee := .builtin .clear, args := ⟨[x]⟩, argTypes := ⟨[t]⟩ } => clearW P t h (ρ x) K
 | .move x => nlW (ρ x) K
 | .assign x => nlW (ρ x) K
 | _ => False
/-- A nil slice, taken for one that owns its rows. -/
def arrD (k : Nat) (v : AV) (K : R → Prop) : Prop :=
 match v with
 | .p (.sl .own xs) => xs = [] ∧ K ⟨.ref k 0 0, [(k, .deep false [] [])], []⟩
 | _ => False
/-- Ways by which a block owns its rows, for a body that asks for them. -/
def opN (P : Program) (ρ : Operand → AV) (h : Nat → Blk) (k : Nat) (op : Op) (K : R → Prop) : Prop :=
 match op with
 | .buildSlice t n parts => buildSliceD P t n parts k ρ h K
 | .makeSlice t l c => makeD P t k (ρ l) (ρ c) K
 | .alloc t => allocD P t k K
 | .box _ v => boxD h k (ρ v) K
 | .build t parts => buildN P t (parts.toList.map fun p => (p.1, ρ p.2)) k K
 | .move x => arrD k (ρ x) K
 | .assign x => arrD k (ρ x) K
 | _ => False
def aggT (P : Program) (t : TypeId) : Bool := match szT P t with | some (_, true) => true | _ => false
def isZ : Operand → Bool
 | .const (.slice none 0 0) => true
 | _ => false
/-- Which operations go those ways: 'n' slices of slices, 's' structs, 'z' nil slices. -/
def isN (P : Program) (n s z : Bool) : Op → Bool
 | .move x => z && isZ x
 | .assign x => z && isZ x
 | .buildSlice t _ _ => n && nestT P t
 | .makeSlice t _ _ => n && nestT P t
 | .alloc t => s && aggT P t
 | .box t _ => s && aggT P t
 | .build t parts => s && decide (parts.size < ((placesT P t).getD []).length)
 | _ => false
def wayN (sg : FuncId → List Bool) : Bool := (sg 4294967297).getD 0 false
def wayS (sg : FuncId → List Bool) : Bool := (sg 4294967297).getD 1 false
def wayZ (sg : FuncId → List Bool) : Bool := (sg 4294967297).getD 2 false
def isX : Op → Bool
 | .binOp .add .. | .binOp .sub .. | .binOp .mul .. | .binOp .and .. | .binOp .xor .. | .slice .. => true
 | .call { callee := .builtin .clear, args := ⟨[_]⟩, argTypes := ⟨[_]⟩ } => true
 | .move x => isZ x
 | .assign x => isZ x
 | _ => false
/-- .. and those of slices of slices of slices alone. -/
def nest2T (P : Program) (t : TypeId) : Bool :=
 match P.underlying t with
 | some (.slice e) => nestT P e
 | _ => false
def isM (P : Program) : Op → Bool
 | .buildSlice t _ _ => nest2T P t
 | .makeSlice t _ _ => nest2T P t
 | _ => false
def wayM (sg : FuncId → List Bool) : Bool := (sg 4294967297).getD 3 false
def wayE (sg : FuncId → List Bool) : Bool := !(sg 4294967296).isEmpty
def opW [Amb] (P : Program) (sg : FuncId → List Bool) (ρ : Operand → AV) (h : Nat → Blk) (k : Nat) (op : Op) (K : R → Prop) : Prop :=
 if (wayE sg && isX op) = true then opE P ρ h op K else if (isN P (wayN sg) (wayS sg) (wayZ sg) op || (wayM sg && isM P op)) = true then opN P ρ h k op K else opB P sg ρ h k op K
/-- One operation in its place, its guard looked at. -/
def St.app (S : St) (d : Option Nat) (r : R) : St := (S.puto d r.v).hws r.ws
/-- A guard's value looked at (the empty tuple: what it asks was left out itself). -/
def gdW (v : AV) (want : Bool) (yes no : Prop) : Prop :=
 match v with
 | .p (.bool b) => (b = want → yes) ∧ (b ≠ want → no)
 | .tup [] => no
 | _ => False
def guardW (ops : Array Oper) (S : St) (o : Oper) (yes no : Prop) : Prop :=
 match o.guard with
 | none => yes
 | some (j, want) => match (ops[j]?).bind (·.dst) with
  | some d => gdW (S.e d) want yes no
  | none => False
/-- The number at which the i-th operation of a region lays what it makes. -/
def num (S0 i : Nat) : Nat := S0 + 256 * i
def opsW [Amb] (P : Program) (sg : FuncId → List Bool) (ops : Array Oper) (n0 : Nat) : List Oper → Nat → St → (St → Prop) → Prop
 | [], _, S, K => K S
 | o :: os, i, S, K => guardW ops S o (opW P sg (opd S) S.h (num n0 i) o.op fun r => opsW P sg ops n0 os (i + 1) (S.app o.dst r) K) (opsW P sg ops n0 os (i + 1) (S.puto o.dst (.tup [])) K)
/-- The temporaries that an operation looks at. -/
def looks (ops : Array Oper) (o : Oper) : List Nat := o.looksAt ops
/-- 'j' comes behind 'i' in every order. -/
def behind (ops : Array Oper) : Nat → Nat → Nat → Bool
 | 0, _, _ => false
 | n + 1, i, j => match ops[j]? with
  | some o => o.after.any fun e => Region.binds .any e && e.on < j && (e.on == i || behind ops n i e.on)
  | none => false
/-- What was done by an operation of a region: the blocks it set, the blocks it looked at. -/
def clear (a b : List (Nat × Blk) × List Nat) : Prop :=
 ∀ p ∈ a.1, p.1 ∉ b.2 ∧ ∀ q ∈ b.1, p.1 ≠ q.1
def opsD [Amb] (P : Program) (sg : FuncId → List Bool) (ops : Array Oper) (n0 : Nat) : List Oper → Nat → St → List (List (Nat × Blk) × List Nat) → (St → List (List (Nat × Blk) × List Nat) → Prop) → Prop
 | [], _, S, L, K => K S L
 | o :: os, i, S, L, K => guardW ops S o (opW P sg (opd S) S.h (num n0 i) o.op fun r => opsD P sg ops n0 os (i + 1) (S.app o.dst r) (L ++ [(r.ws, r.rd)]) K) (opsD P sg ops n0 os (i + 1) (S.puto o.dst (.tup [])) (L ++ [([], [])]) K)
/-- Two operations that may change places do not meet in a temporary. -/
def apartAll (ops : Array Oper) : Bool :=
 (List.range ops.size).all fun j => (List.range j).all fun i => behind ops ops.size i j || (match ops[i]?, ops[j]? with | some x, some y => x.apart ops y | _, _ => false)
def clearAll (ops : Array Oper) (L : List (List (Nat × Blk) × List Nat)) : Prop :=
 ∀ j, j < ops.size → ∀ i, i < j → behind ops ops.size i j = true ∨ (clear (L.getD i ([], [])) (L.getD j ([], [])) ∧ clear (L.getD j ([], [])) (L.getD i ([], [])))
/-- No operation writes a slot beyond the call's, none selects, and each edge leads back. -/
def regOk (nt : Nat) (ops : Array Oper) : Bool :=
 ops.toList.zipIdx.all fun (o, i) => (match o.dst with | some d => decide (d < nt) | none => true) && o.after.all (fun e => !Region.binds .any e || decide (e.on < i))
inductive Ex where
 | normal
 | exit (id : Nat)
 | ret
/-- What a piece of code comes to. -/
def wp [Amb] (P : Program) (sg : FuncId → List Bool) (nt : Nat) : Code → (Ex → St → Prop) → St → Prop
 | .skip, Q, S => Q .normal S
 | .region _ ops false, Q, S => regOk nt ops = true ∧ opsW P sg ops S.n ops.toList 0 S fun S' => Q .normal (S'.nx (256 * ops.size))
 | .region _ ops true, Q, S => regOk nt ops = true ∧ apartAll ops = true ∧ opsD P sg ops S.n ops.toList 0 S [] fun S' L => clearAll ops L ∧ Q .normal (S'.nx (256 * ops.size))
 | .seq a b, Q, S => wp P sg nt a (fun ex S' => match ex with | .normal => wp P sg nt b Q S' | ex => Q ex S') S
 | .cond c a b, Q, S => match opd S c with
  | .p (.bool t) => (t = true → wp P sg nt a Q S) ∧ (t = false → wp P sg nt b Q S)
  | _ => False
 | .block id c, Q, S => wp P sg nt c (fun ex S' => match ex with | .exit j => if j = id then Q .normal S' else Q (.exit j) S' | ex => Q ex S') S
 | .loop c, Q, S => ∃ I : Nat → St → Prop, (∃ n, I n S) ∧ ∀ n S, I n S → wp P sg nt c (fun ex S' => match ex with | .normal => ∃ m, m < n ∧ I m S' | ex => Q ex S') S
 | .exit id, Q, S => Q (.exit id) S
 | .ret, Q, S => Q .ret S
 | _, _, _ => False
end Go.Gl
namespace Go.Gl
open Go
/-- What a step leaves of the memory that readings lie in. -/
def Stays (w w' : World) (F F' : Nat → Prop) : Prop :=
 ∀ B o v, ¬ F B → w.cell? ⟨B, o, none⟩ = some v → w'.cell? ⟨B, o, none⟩ = some v ∧ ¬ F' B
theorem RepC_ne {w : World} {F G : Nat → Prop} {B o : Nat} {x : PV} {xs : List PV} (h : RepC w F G B o (x :: xs)) : ∃ v, w.cell? ⟨B, o, none⟩ = some v := by
 simp only [RepC] at h
 obtain ⟨⟨v, hv, _⟩, _⟩ := h
 exact ⟨v, hv⟩
mutual
theorem RepP.tr {w w' : World} {F F' G G' : Nat → Prop} (H : Stays w w' F F') (HG : ∀ B, (∃ o v, w.cell? ⟨B, o, none⟩ = some v) → ¬ F B → G B → G' B) : ∀ (x : PV) (v : Value), RepP w F G x v → RepP w' F' G' x v
 | .int _ _, _, h => h
 | .bool _, _, h => h
 | .str _, _, h => h
 | .nilf, _, h => h
 | .nl, _, h => h
 | .any, _, _ => trivial
 | .dl _, _, h => by simp only [RepP] at h
 | .bx _, _, h => by simp only [RepP] at h
 | .sl o xs, v, h => by
  simp only [RepP] at h ⊢
  obtain ⟨a, cap, hv, hl, hm, ho, hx⟩ := h
  refine ⟨a, cap, hv, hl, hm, ho, ?_⟩
  rcases hx with hx | ⟨B, off, ha, hF, hG, hc⟩
  ·exact .inl hx
  ·cases xs with
   | nil => exact .inl rfl
   | cons y ys =>
    obtain ⟨u, hu⟩ := RepC_ne hc
    exact .inr ⟨B, off, ha, (H B off u hF hu).2, fun e => HG B ⟨off, u, hu⟩ hF (hG e), RepC.tr H HG (y :: ys) B off (fun o v hv => (H B o v hF hv).1) hc⟩
 | .agg xs, v, h => by
  simp only [RepP] at h ⊢
  obtain ⟨cs, hv, hx⟩ := h
  exact ⟨cs, hv, RepL.tr H HG xs cs hx⟩
 | .fn f a b, v, h => by
  simp only [RepP] at h ⊢
  obtain ⟨a', b', hv, ha, hb⟩ := h
  exact ⟨a', b', hv, RepL.tr H HG a a' ha, RepL.tr H HG b b' hb⟩
 | .pc xs, v, h => by
  simp only [RepP] at h ⊢
  obtain ⟨B, off, hv, hF, hc⟩ := h
  cases xs with
  | nil => exact ⟨B, off, hv, .inl rfl, by simp only [RepC]⟩
  | cons y ys =>
   have hF' : ¬ F B := by rcases hF with hF | hF; exact absurd hF (by simp); exact hF
   obtain ⟨u, hu⟩ := RepC_ne hc
   exact ⟨B, off, hv, .inr (H B off u hF' hu).2, RepC.tr H HG (y :: ys) B off (fun o v hv => (H B o v hF' hv).1) hc⟩
theorem RepC.tr {w w' : World} {F F' G G' : Nat → Prop} (H : Stays w w' F F') (HG : ∀ B, (∃ o v, w.cell? ⟨B, o, none⟩ = some v) → ¬ F B → G B → G' B) : ∀ (xs : List PV) (B o : Nat),
  (∀ o v, w.cell? ⟨B, o, none⟩ = some v → w'.cell? ⟨B, o, none⟩ = some v) → RepC w F G B o xs → RepC w' F' G' B o xs
 | [], _, _, _, _ => by simp only [RepC]
 | x :: xs, B, o, hB, h => by
  simp only [RepC] at h ⊢
  obtain ⟨⟨v, hv, h1, hx⟩, hr⟩ := h
  exact ⟨⟨v, hB _ _ hv, h1, RepP.tr H HG x v hx⟩, RepC.tr H HG xs B (o + 1) hB hr⟩
theorem RepL.tr {w w' : World} {F F' G G' : Nat → Prop} (H : Stays w w' F F') (HG : ∀ B, (∃ o v, w.cell? ⟨B, o, none⟩ = some v) → ¬ F B → G B → G' B) : ∀ (xs : List PV) (vs : List Value),
  RepL w F G xs vs → RepL w' F' G' xs vs
 | [], _, h => by simpa only [RepL] using h
 | x :: xs, vs, h => by
  simp only [RepL] at h ⊢
  obtain ⟨v, vs', rfl, hx, hr⟩ := h
  exact ⟨v, vs', rfl, RepP.tr H HG x v hx, RepL.tr H HG xs vs' hr⟩
end
mutual
theorem RepA.tr {w w' : World} {F F' G G' : Nat → Prop} {ι ι' : Nat → Loc} (H : Stays w w' F F') (HG : ∀ B, (∃ o v, w.cell? ⟨B, o, none⟩ = some v) → ¬ F B → G B → G' B) :
  ∀ (x : AV) (v : Value), (∀ i, x.has i = true → LocEq (ι i) (ι' i)) → RepA w F G ι x v → RepA w' F' G' ι' x v
 | .p x, v, _, h => RepP.tr H HG x v h
 | .ref id off len, v, hi, h => by
  obtain ⟨e1, e2, e3, _⟩ := hi id (by simp [AV.has])
  simp only [RepA] at h ⊢
  rw [e1, e2, e3]; exact h
 | .ptr id off, v, hi, h => by
  obtain ⟨e1, e2, _⟩ := hi id (by simp [AV.has])
  simp only [RepA] at h ⊢
  rw [e1, e2]; exact h
 | .inn id r off len, v, hi, h => by
  have e := hi id (by simp [AV.has])
  simp only [RepA] at h ⊢
  rw [e.sub h.1]; exact ⟨Nat.lt_of_lt_of_le h.1 e.2.2.2.1, h.2⟩
 | .iptr id r off, v, hi, h => by
  have e := hi id (by simp [AV.has])
  simp only [RepA] at h ⊢
  rw [e.sub h.1]; exact ⟨Nat.lt_of_lt_of_le h.1 e.2.2.2.1, h.2⟩
 | .mp id, v, hi, h => by
  obtain ⟨e1, _⟩ := hi id (by simp [AV.has])
  simp only [RepA] at h ⊢
  rw [e1]; exact h
 | .prs id len, v, hi, h => by
  obtain ⟨e1, e2, _⟩ := hi id (by simp [AV.has])
  simp only [RepA] at h ⊢
  rw [e1, e2]; exact h
 | .agg xs, v, hi, h => by
  simp only [RepA] at h ⊢
  obtain ⟨cs, hv, hx⟩ := h
  exact ⟨cs, hv, RepAL.tr H HG xs cs (fun i h => hi i (by simpa [AV.has] using h)) hx⟩
 | .tup xs, v, hi, h => by
  simp only [RepA] at h ⊢
  obtain ⟨cs, hv, hx⟩ := h
  exact ⟨cs, hv, RepAL.tr H HG xs cs (fun i h => hi i (by simpa [AV.has] using h)) hx⟩
 | .fn f a b, v, hi, h => by
  simp only [RepA] at h ⊢
  obtain ⟨a', b', hv, ha, hb⟩ := h
  exact ⟨a', b', hv, RepAL.tr H HG a a' (fun i h => hi i (by simp [AV.has, h])) ha, RepAL.tr H HG b b' (fun i h => hi i (by simp [AV.has, h])) hb⟩
theorem RepAL.tr {w w' : World} {F F' G G' : Nat → Prop} {ι ι' : Nat → Loc} (H : Stays w w' F F') (HG : ∀ B, (∃ o v, w.cell? ⟨B, o, none⟩ = some v) → ¬ F B → G B → G' B) :
  ∀ (xs : List AV) (vs : List Value), (∀ i, AV.hasL xs i = true → LocEq (ι i) (ι' i)) → RepAL w F G ι xs vs → RepAL w' F' G' ι' xs vs
 | [], _, _, h => by simpa only [RepAL] using h
 | x :: xs, vs, hi, h => by
  simp only [RepAL] at h ⊢
  obtain ⟨v, vs', rfl, hx, hr⟩ := h
  exact ⟨v, vs', rfl, RepA.tr H HG x v (fun i h => hi i (by simp [AV.hasL, h])) hx, RepAL.tr H HG xs vs' (fun i h => hi i (by simp [AV.hasL, h])) hr⟩
end
theorem Stays.refl (w : World) (F : Nat → Prop) : Stays w w F F := fun _ _ _ h hv => ⟨hv, h⟩
/-! ### a block, carried on -/
theorem RowAt.same {w w' : World} {l : Loc} (h : RowAt w l) (he : w'.heap[l.B]? = w.heap[l.B]?) : RowAt w' l := by
 obtain ⟨cs, E, lo, hi, hh, r⟩ := h
 exact ⟨cs, E, lo, hi, by rw [he]; exact hh, r⟩
theorem RowAt.lt {w : World} {l : Loc} (h : RowAt w l) : l.B < w.heap.size := by
 obtain ⟨cs, E, lo, hi, hh, _⟩ := h
 exact (Array.getElem?_eq_some_iff.1 hh).1
theorem cell?_eq0 (w : World) (B o : Nat) : w.cell? ⟨B, o, none⟩ = match w.heap[B]? with | some (.cells c _ _) => c[o]? | _ => none := rfl
theorem cell?_same {w w' : World} {B o : Nat} (he : w'.heap[B]? = w.heap[B]?) : w'.cell? ⟨B, o, none⟩ = w.cell? ⟨B, o, none⟩ := by
 rw [cell?_eq0, cell?_eq0, he]
theorem rowOk.tr {w w' : World} {F F' G G' O O' : Nat → Prop} (H : Stays w w' F F') (HG : ∀ B, (∃ o v, w.cell? ⟨B, o, none⟩ = some v) → ¬ F B → G B → G' B) {l : Loc} {c : List PV}
  (he : l.cap ≠ 0 → w'.heap[l.B]? = w.heap[l.B]?) (hO : l.cap ≠ 0 → O l.B → O' l.B) (h : rowOk w F G O l c) : rowOk w' F' G' O' l c := by
 obtain ⟨h1, h2, h3⟩ := h
 refine ⟨h1, h2, ?_⟩
 by_cases h0 : l.cap = 0
 ·exact .inl h0
 ·rcases h3 with h3 | ⟨hr, hc, ho⟩
  ·exact absurd h3 h0
  ·exact .inr ⟨hr.same (he h0), RepC.tr H HG _ _ _ (fun o v hv => by rw [cell?_same (he h0)]; exact hv) hc, hO h0 ho⟩
theorem dcRep.tr {w w' : World} {F F' G G' : Nat → Prop} (H : Stays w w' F F') (HG : ∀ B, (∃ o v, w.cell? ⟨B, o, none⟩ = some v) → ¬ F B → G B → G' B) {l : Loc} {rs : List (Option (List PV))} {x : DC} {v : Value}
  (h : dcRep w F G l rs x v) : dcRep w' F' G' l rs x v := by
 cases x with
 | v x => exact RepP.tr H HG x v h
 | row r => exact h
 | self o => exact h
theorem okB.tr {w w' : World} {F F' G G' : Nat → Prop} {O O' : Bool → Nat → Prop} (H : Stays w w' F F') (HG : ∀ B, (∃ o v, w.cell? ⟨B, o, none⟩ = some v) → ¬ F B → G B → G' B) {b : Blk} {l : Loc}
  (he : ∀ B, owns b l B → w'.heap[B]? = w.heap[B]?) (hO : ∀ m B, owns b l B → O m B → O' m B) (h : okB w F G O b l) : okB w' F' G' O' b l := by
 cases b with
 | live m c => exact rowOk.tr H HG (fun h0 => he _ ⟨h0, rfl⟩) (fun h0 => hO _ _ ⟨h0, rfl⟩) h
 | froz m c =>
  obtain ⟨h1, h2, h3⟩ := h
  refine ⟨h1, h2, ?_⟩
  rcases h3 with h3 | ⟨hF, hg, hc⟩
  ·exact .inl h3
  ·cases c with
   | nil => exact .inl rfl
   | cons y ys =>
    obtain ⟨u, hu⟩ := RepC_ne hc
    exact .inr ⟨(H _ _ u hF hu).2, fun e => HG _ ⟨_, _, hu⟩ hF (hg e), RepC.tr H HG _ _ _ (fun o v hv => (H _ o v hF hv).1) hc⟩
 | deep m cs rs =>
  obtain ⟨hn, ⟨h1, h2, h3⟩, h4, h5, h6⟩ := h
  refine ⟨hn, ⟨h1, h2, ?_⟩, fun r c hr => rowOk.tr H HG (fun h0 => he _ (.inr ⟨r, c, hr, h0, rfl⟩)) (fun h0 => hO _ _ (.inr ⟨r, c, hr, h0, rfl⟩)) (h4 r c hr), h5, h6⟩
  by_cases h0 : l.cap = 0
  ·exact .inl h0
  ·rcases h3 with h3 | ⟨hr, ho, hc⟩
   ·exact absurd h3 h0
   ·have e := he _ (.inl ⟨h0, rfl⟩)
    refine .inr ⟨hr.same e, hO _ _ (.inl ⟨h0, rfl⟩) ho, fun j x hj => ?_⟩
    obtain ⟨v, hv, h1, hx⟩ := hc j x hj
    exact ⟨v, by rw [cell?_same e]; exact hv, h1, hx.tr H HG⟩
 | map m kt es =>
  obtain ⟨h0, h1, A, cl, h2, h3⟩ := h
  exact ⟨h0, hO _ _ ⟨h0, rfl⟩ h1, A, cl, by rw [he _ ⟨h0, rfl⟩]; exact h2, h3.keys, h3.apart, h3.no, fun q x hq => by
   obtain ⟨e, he, hk, hr⟩ := h3.yes q x hq
   exact ⟨e, he, hk, RepP.tr H HG _ _ hr⟩⟩
 | dead => trivial
theorem okB.lt {w : World} {F G : Nat → Prop} {O : Bool → Nat → Prop} {b : Blk} {l : Loc} (h : okB w F G O b l) {B : Nat} (ho : owns b l B) : B < w.heap.size := by
 cases b with
 | live m c =>
  obtain ⟨_, _, h3⟩ := h
  obtain ⟨h0, rfl⟩ := ho
  rcases h3 with h3 | ⟨hr, _⟩
  ·exact absurd h3 h0
  ·exact hr.lt
 | froz m c => exact ho.elim
 | deep m cs rs =>
  obtain ⟨_, ⟨_, _, h3⟩, h4, _⟩ := h
  rcases ho with ⟨h0, rfl⟩ | ⟨r, c, hr, h0, rfl⟩
  ·rcases h3 with h3 | ⟨hr, _⟩
   ·exact absurd h3 h0
   ·exact hr.lt
  ·obtain ⟨_, _, h3⟩ := h4 r c hr
   rcases h3 with h3 | ⟨hr, _⟩
   ·exact absurd h3 h0
   ·exact hr.lt
 | map m kt es =>
  obtain ⟨_, _, _, _, h2, _⟩ := h
  obtain ⟨h0, rfl⟩ := ho
  exact (Array.getElem?_eq_some_iff.1 h2).1
 | dead => exact ho.elim
theorem okB.org {w : World} {F G : Nat → Prop} {O : Bool → Nat → Prop} {b : Blk} {l : Loc} (h : okB w F G O b l) {B : Nat} (ho : owns b l B) : ∃ m, O m B := by
 cases b with
 | live m c =>
  obtain ⟨_, _, h3⟩ := h
  obtain ⟨h0, rfl⟩ := ho
  rcases h3 with h3 | ⟨_, _, h3⟩
  ·exact absurd h3 h0
  ·exact ⟨m, h3⟩
 | froz m c => exact ho.elim
 | deep m cs rs =>
  obtain ⟨_, ⟨_, _, h3⟩, h4, _⟩ := h
  rcases ho with ⟨h0, rfl⟩ | ⟨r, c, hr, h0, rfl⟩
  ·rcases h3 with h3 | ⟨_, h3, _⟩
   ·exact absurd h3 h0
   ·exact ⟨m, h3⟩
  ·obtain ⟨_, _, h3⟩ := h4 r c hr
   rcases h3 with h3 | ⟨_, _, h3⟩
   ·exact absurd h3 h0
   ·exact ⟨m, h3⟩
 | map m kt es =>
  obtain ⟨h0, rfl⟩ := ho
  exact ⟨m, h.2.1⟩
 | dead => exact ho.elim
theorem okB.orgF {w : World} {F G : Nat → Prop} {O : Bool → Nat → Prop} {b : Blk} {l : Loc} (h : okB w F G O b l) {B : Nat} (ho : owns b l B) : O (flg b) B := by
 cases b with
 | live m c =>
  obtain ⟨_, _, h3⟩ := h
  obtain ⟨h0, rfl⟩ := ho
  rcases h3 with h3 | ⟨_, _, h3⟩
  ·exact absurd h3 h0
  ·exact h3
 | froz m c => exact ho.elim
 | deep m cs rs =>
  obtain ⟨_, ⟨_, _, h3⟩, h4, _⟩ := h
  rcases ho with ⟨h0, rfl⟩ | ⟨r, c, hr, h0, rfl⟩
  ·rcases h3 with h3 | ⟨_, h3, _⟩
   ·exact absurd h3 h0
   ·exact h3
  ·obtain ⟨_, _, h3⟩ := h4 r c hr
   rcases h3 with h3 | ⟨_, _, h3⟩
   ·exact absurd h3 h0
   ·exact h3
 | map m kt es =>
  obtain ⟨h0, rfl⟩ := ho
  exact h.2.1
 | dead => exact ho.elim
/-! ### cells in memory, one by one -/
theorem RepC_iff {w : World} {F G : Nat → Prop} {B : Nat} : ∀ {xs : List PV} {o : Nat}, RepC w F G B o xs ↔ ∀ (j : Nat) (x : PV), xs[j]? = some x → ∃ v, w.cell? ⟨B, o + j, none⟩ = some v ∧ v.oneCell' = true ∧ RepP w F G x v
 | [], o => by simp [RepC]
 | x :: xs, o => by
  simp only [RepC]
  rw [RepC_iff (xs := xs) (o := o + 1)]
  constructor
  ·rintro ⟨h0, hr⟩ j y hj
   cases j with
   | zero => simp only [List.getElem?_cons_zero, Option.some.injEq] at hj; subst hj; simpa using h0
   | succ j => simp only [List.getElem?_cons_succ] at hj; have := hr j y hj; rwa [show o + 1 + j = o + (j + 1) from by omega] at this
  ·intro h
   refine ⟨by simpa using h 0 x rfl, fun j y hj => ?_⟩
   have := h (j + 1) y (by simpa using hj)
   rwa [show o + (j + 1) = o + 1 + j from by omega] at this
theorem RepC_drop {w : World} {F G : Nat → Prop} {B o : Nat} {xs : List PV} (h : RepC w F G B o xs) (k : Nat) : RepC w F G B (o + k) (xs.drop k) := by
 rw [RepC_iff] at h ⊢
 intro j x hj
 rw [List.getElem?_drop] at hj
 have := h (k + j) x hj
 rwa [show o + (k + j) = o + k + j from by omega] at this
theorem RepC_take {w : World} {F G : Nat → Prop} {B o : Nat} {xs : List PV} (h : RepC w F G B o xs) (k : Nat) : RepC w F G B o (xs.take k) := by
 rw [RepC_iff] at h ⊢
 intro j x hj
 rw [List.getElem?_take] at hj
 split at hj
 ·exact h j x hj
 ·cases hj
theorem RepC_append {w : World} {F G : Nat → Prop} {B o : Nat} {xs ys : List PV} : RepC w F G B o (xs ++ ys) ↔ RepC w F G B o xs ∧ RepC w F G B (o + xs.length) ys := by
 induction xs generalizing o with
 | nil => simp [RepC]
 | cons x xs ih =>
  simp only [List.cons_append, RepC, List.length_cons]
  rw [ih, show o + 1 + xs.length = o + (xs.length + 1) from by omega]
  constructor
  ·rintro ⟨a, b, c⟩; exact ⟨⟨a, b⟩, c⟩
  ·rintro ⟨⟨a, b⟩, c⟩; exact ⟨a, b, c⟩
theorem RepL_length {w : World} {F G : Nat → Prop} : ∀ {xs : List PV} {vs : List Value}, RepL w F G xs vs → vs.length = xs.length
 | [], vs, h => by simp only [RepL] at h; subst h; rfl
 | x :: xs, vs, h => by
  simp only [RepL] at h
  obtain ⟨v, vs', rfl, _, hr⟩ := h
  simp [RepL_length hr]
theorem RepL_get {w : World} {F G : Nat → Prop} : ∀ {xs : List PV} {vs : List Value}, RepL w F G xs vs → ∀ (j : Nat) (x : PV), xs[j]? = some x → ∃ v, vs[j]? = some v ∧ RepP w F G x v
 | [], vs, h, j, x, hj => by simp at hj
 | y :: xs, vs, h, j, x, hj => by
  simp only [RepL] at h
  obtain ⟨v, vs', rfl, hy, hr⟩ := h
  cases j with
  | zero => simp only [List.getElem?_cons_zero, Option.some.injEq] at hj ⊢; subst hj; exact ⟨v, rfl, hy⟩
  | succ j => simp only [List.getElem?_cons_succ] at hj ⊢; exact RepL_get hr j x hj
theorem RepL_of {w : World} {F G : Nat → Prop} : ∀ {xs : List PV} {vs : List Value}, vs.length = xs.length → (∀ (j : Nat) (x : PV) (v : Value), xs[j]? = some x → vs[j]? = some v → RepP w F G x v) → RepL w F G xs vs
 | [], vs, h, _ => by simp only [RepL]; simpa using h
 | x :: xs, [], h, _ => by simp at h
 | x :: xs, v :: vs, h, hh => by
  simp only [RepL]
  exact ⟨v, vs, rfl, hh 0 x v rfl rfl, RepL_of (by simpa using h) fun j y u hj hu => hh (j + 1) y u (by simpa using hj) (by simpa using hu)⟩
theorem RepAL_length {w : World} {F G : Nat → Prop} {ι : Nat → Loc} : ∀ {xs : List AV} {vs : List Value}, RepAL w F G ι xs vs → vs.length = xs.length
 | [], vs, h => by simp only [RepAL] at h; subst h; rfl
 | x :: xs, vs, h => by
  simp only [RepAL] at h
  obtain ⟨v, vs', rfl, _, hr⟩ := h
  simp [RepAL_length hr]
theorem RepAL_get {w : World} {F G : Nat → Prop} {ι : Nat → Loc} : ∀ {xs : List AV} {vs : List Value}, RepAL w F G ι xs vs → ∀ (j : Nat) (x : AV), xs[j]? = some x → ∃ v, vs[j]? = some v ∧ RepA w F G ι x v
 | [], vs, h, j, x, hj => by simp at hj
 | y :: xs, vs, h, j, x, hj => by
  simp only [RepAL] at h
  obtain ⟨v, vs', rfl, hy, hr⟩ := h
  cases j with
  | zero => simp only [List.getElem?_cons_zero, Option.some.injEq] at hj ⊢; subst hj; exact ⟨v, rfl, hy⟩
  | succ j => simp only [List.getElem?_cons_succ] at hj ⊢; exact RepAL_get hr j x hj
theorem RepAL_of {w : World} {F G : Nat → Prop} {ι : Nat → Loc} : ∀ {xs : List AV} {vs : List Value}, vs.length = xs.length → (∀ (j : Nat) (x : AV) (v : Value), xs[j]? = some x → vs[j]? = some v → RepA w F G ι x v) → RepAL w F G ι xs vs
 | [], vs, h, _ => by simp only [RepAL]; simpa using h
 | x :: xs, [], h, _ => by simp at h
 | x :: xs, v :: vs, h, hh => by
  simp only [RepAL]
  exact ⟨v, vs, rfl, hh 0 x v rfl rfl, RepAL_of (by simpa using h) fun j y u hj hu => hh (j + 1) y u (by simpa using hj) (by simpa using hu)⟩
theorem RepAL_map {w : World} {F G : Nat → Prop} {ι : Nat → Loc} {α : Type} {f : α → AV} {g : α → Value} (h : ∀ a, RepA w F G ι (f a) (g a)) : ∀ xs : List α, RepAL w F G ι (xs.map f) (xs.map g)
 | [] => by simp [RepAL]
 | x :: xs => by simp only [List.map_cons, RepAL]; exact ⟨_, _, rfl, h x, RepAL_map h xs⟩
theorem RepAL_append {w : World} {F G : Nat → Prop} {ι : Nat → Loc} : ∀ {xs ys : List AV} {vs us : List Value}, RepAL w F G ι xs vs → RepAL w F G ι ys us → RepAL w F G ι (xs ++ ys) (vs ++ us)
 | [], _, _, _, h, h' => by simp only [RepAL] at h; subst h; simpa using h'
 | x :: xs, ys, vs, us, h, h' => by
  simp only [RepAL] at h
  obtain ⟨v, vs', rfl, hx, hr⟩ := h
  simp only [List.cons_append, RepAL]
  exact ⟨_, _, rfl, hx, RepAL_append hr h'⟩
theorem RepAL_p {w : World} {F G : Nat → Prop} {ι : Nat → Loc} : ∀ {xs : List PV} {vs : List Value}, RepAL w F G ι (xs.map .p) vs ↔ RepL w F G xs vs
 | [], vs => by simp [RepAL, RepL]
 | x :: xs, vs => by
  simp only [List.map_cons, RepAL, RepL, RepA]
  constructor
  ·rintro ⟨v, vs', rfl, h, hr⟩; exact ⟨v, vs', rfl, h, RepAL_p.1 hr⟩
  ·rintro ⟨v, vs', rfl, h, hr⟩; exact ⟨v, vs', rfl, h, RepAL_p.2 hr⟩
end Go.Gl
namespace Go.Gl
open Go
variable [Amb]
/-- The world w and the frame a are as the state S tells: 'A': the numbers given so far; 'w0': the world of the call's beginning. -/
structure Rel (w0 : World) (nA nt : Nat) (M G : Nat → Prop) (ι0 : Nat → Loc) (A : Nat → Prop) (w : World) (S : St) (ι : Nat → Loc) (a : Act) : Prop where
 keep : Keep w0 w M
 heap : HeapOk w w0.heap.size M G S.h ι
 slots : ∀ t, RepA w (Held S.h ι) G ι (S.e t) (a.tmps.getD t undef)
 alloc : ∀ id, ¬ A id → S.h id = .dead
 named : ∀ t i, (S.e t).has i = true → A i
 loc : ∀ j, j < nA → LocEq (ι0 j) (ι j)
 args : ∀ j, j < nA → A j
 new : ∀ B, w0.heap.size ≤ B → G B
 size : a.tmps.size = nt
 defers : a.defers = []
section
variable {w0 : World} {nA nt : Nat} {M G : Nat → Prop} {ι0 : Nat → Loc} {A : Nat → Prop} {w : World} {S : St} {ι : Nat → Loc} {a : Act}
theorem Rel.mono {A' : Nat → Prop} (h : Rel w0 nA nt M G ι0 A w S ι a) (hA : ∀ i, A i → A' i) : Rel w0 nA nt M G ι0 A' w S ι a :=
 ⟨h.keep, h.heap, h.slots, fun i hi => h.alloc i fun h => hi (hA i h), fun t i hi => hA i (h.named t i hi), h.loc, fun j hj => hA j (h.args j hj), h.new, h.size, h.defers⟩
theorem getD_put {a : Act} {d : Nat} {v : Value} {t : Nat} (hd : d < a.tmps.size) : (a.put (some d) v).tmps.getD t undef = if t = d then v else a.tmps.getD t undef := by
 simp only [Act.put, Array.getD_eq_getD_getElem?, Array.getElem?_setIfInBounds]
 by_cases h : t = d
 ·subst h; simp [hd]
 ·have h' : ¬ d = t := fun e => h e.symm
  simp [h, h']
theorem Rel.put (h : Rel w0 nA nt M G ι0 A w S ι a) (d : Option Nat) (hd : ∀ x, d = some x → x < nt) {v : AV} {val : Value} (hv : RepA w (Held S.h ι) G ι v val) (hn : ∀ i, v.has i = true → A i) :
  Rel w0 nA nt M G ι0 A w (S.puto d v) ι (a.put d val) := by
 cases d with
 | none => exact h
 | some d =>
  have hd' : d < a.tmps.size := by rw [h.size]; exact hd d rfl
  refine ⟨h.keep, h.heap, fun t => ?_, h.alloc, fun t i hi => ?_, h.loc, h.args, h.new, by simp [Act.put, h.size], h.defers⟩
  ·rw [getD_put hd']
   simp only [St.puto, St.put]
   by_cases ht : t = d
   ·simp only [ht, if_true]; exact hv
   ·simp only [ht, if_false]; exact h.slots t
  ·simp only [St.puto, St.put] at hi
   by_cases ht : t = d
   ·simp only [ht, if_true] at hi; exact hn i hi
   ·simp only [ht, if_false] at hi; exact h.named t i hi
/-! ### freezing -/
def Frz (h h' : Nat → Blk) : Prop := ∀ id, h' id = h id ∨ ∃ m c, h id = .live m c ∧ h' id = .froz m c
theorem Frz.refl (h : Nat → Blk) : Frz h h := fun _ => .inl rfl
theorem Frz.live {h h' : Nat → Blk} (f : Frz h h') {id : Nat} {m : Bool} {c : List PV} (hl : h' id = .live m c) : h id = .live m c := by
 rcases f id with e | ⟨m', c', _, e⟩
 ·rw [← e]; exact hl
 ·rw [e] at hl; cases hl
theorem Frz.owns {h h' : Nat → Blk} (f : Frz h h') {id : Nat} {l : Loc} {B : Nat} (ho : owns (h' id) l B) : owns (h id) l B := by
 rcases f id with e | ⟨m, c, _, e⟩
 ·rw [e] at ho; exact ho
 ·rw [e] at ho; exact ho.elim
theorem Frz.held {h h' : Nat → Blk} (f : Frz h h') {ι : Nat → Loc} {B : Nat} (hh : Held h' ι B) : Held h ι B := by
 obtain ⟨id, ho⟩ := hh
 exact ⟨id, f.owns ho⟩
theorem Stays.frz {h h' : Nat → Blk} (f : Frz h h') (w : World) (ι : Nat → Loc) : Stays w w (Held h ι) (Held h' ι) :=
 fun _ _ _ hF hv => ⟨hv, fun hh => hF (f.held hh)⟩
/-- A heap, carried on block by block. -/
theorem HeapOk.upd {w' : World} {z : Nat} {h h' : Nat → Blk} {ι' : Nat → Loc} (ok : HeapOk w z M G h ι) (st : Stays w w' (Held h ι) (Held h' ι'))
  (hb : ∀ id, (h' id = h id ∧ ι' id = ι id ∧ ∀ B, owns (h id) (ι id) B → w'.heap[B]? = w.heap[B]?) ∨ okB w' (Held h' ι') G (Org z M G) (h' id) (ι' id))
  (ap : ∀ id id' B, owns (h' id) (ι' id) B → owns (h' id') (ι' id') B → id = id') : HeapOk w' z M G h' ι' :=
 ⟨fun id => by
  rcases hb id with ⟨e1, e2, e3⟩ | hb
  ·rw [e1, e2]; exact (ok.ok id).tr st (fun _ _ _ h => h) e3 (fun _ _ _ h => h)
  ·exact hb, ap⟩
theorem HeapOk.frz {z : Nat} {h h' : Nat → Blk} (ok : HeapOk w z M G h ι) (f : Frz h h') : HeapOk w z M G h' ι := by
 have tr : ∀ {B o xs}, RepC w (Held h ι) G B o xs → RepC w (Held h' ι) G B o xs := fun hc => RepC.tr (Stays.frz f w ι) (fun _ _ _ h => h) _ _ _ (fun _ _ hv => hv) hc
 refine ok.upd (Stays.frz f w ι) (fun id => ?_) fun id id' B ho ho' => ok.apart id id' B (f.owns ho) (f.owns ho')
 rcases f id with e | ⟨m', c', hl, e⟩
 ·exact .inl ⟨e, rfl, fun _ _ => rfl⟩
 ·right
  rw [e]
  obtain ⟨h1, h2, h3⟩ := ok.live id m' c' hl
  refine ⟨h1, h2, ?_⟩
  rcases h3 with h0 | ⟨_, hc, hx⟩
  ·left; rw [h0] at h1; exact List.eq_nil_of_length_eq_zero (by omega)
  ·by_cases h0 : (ι id).cap = 0
   ·left; rw [h0] at h1; exact List.eq_nil_of_length_eq_zero (by omega)
   ·right
    refine ⟨?_, fun hm => ?_, tr hc⟩
    ·rintro ⟨id', ho'⟩
     have := ok.apart id' id _ (f.owns ho') (owns_live hl h0)
     subst this
     rw [e] at ho'; exact ho'
    ·rcases hx with ⟨_, hg⟩ | ⟨hm', _⟩
     ·exact hg
     ·rw [hm] at hm'; cases hm'
theorem Rel.frz (h : Rel w0 nA nt M G ι0 A w S ι a) {h' : Nat → Blk} (f : Frz S.h h') : Rel w0 nA nt M G ι0 A w { S with h := h' } ι a := by
 refine ⟨h.keep, h.heap.frz f, fun t => RepA.tr (Stays.frz f w ι) (fun _ _ _ h => h) _ _ (fun _ _ => LocEq.refl _) (h.slots t), fun i hi => ?_, h.named, h.loc, h.args, h.new, h.size, h.defers⟩
 rcases f i with e | ⟨m, c, hl, _⟩
 ·exact e.trans (h.alloc i hi)
 ·rw [h.alloc i hi] at hl; cases hl
theorem hwsH_append (h : Nat → Blk) : ∀ (l m : List (Nat × Blk)), hwsH h (l ++ m) = hwsH (hwsH h l) m
 | [], _ => rfl
 | (i, b) :: l, m => by simp only [List.cons_append, hwsH]; exact hwsH_append _ l m
def FrzL (h : Nat → Blk) (ws : List (Nat × Blk)) : Prop := ∀ p ∈ ws, ∃ m c, h p.1 = .live m c ∧ p.2 = .froz m c
theorem FrzL.frz {h : Nat → Blk} : ∀ {ws : List (Nat × Blk)}, FrzL h ws → Frz h (hwsH h ws) := by
 have key : ∀ (ws : List (Nat × Blk)) (g : Nat → Blk), Frz h g → FrzL h ws → Frz h (hwsH g ws) := by
  intro ws
  induction ws with
  | nil => intro g hg _; exact hg
  | cons p ws ih =>
   intro g hg hw
   obtain ⟨i, b⟩ := p
   simp only [hwsH]
   refine ih _ (fun id => ?_) fun q hq => hw q (by simp [hq])
   obtain ⟨m, c, hl, hb⟩ := hw (i, b) (by simp)
   by_cases e : id = i
   ·subst e; simp only [if_true]; exact .inr ⟨m, c, hl, hb⟩
   ·simp only [e, if_false]; exact hg id
 intro ws hw
 exact key ws h (Frz.refl h) hw
/-! ### what is published -/
theorem oneCell_of_cellOk {F : Nat → Prop} {x : PV} {v : Value} (hx : x.cellOk = true) (h : RepP w F G x v) : v.oneCell' = true := by
 cases x <;> simp only [PV.cellOk] at hx <;> simp only [RepP] at h
 case int => subst h; rfl
 case bool => subst h; rfl
 case str => subst h; rfl
 case sl => obtain ⟨_, _, rfl, _⟩ := h; rfl
 case fn => obtain ⟨_, _, rfl, _⟩ := h; rfl
 case nilf => subst h; rfl
 case nl => subst h; rfl
 all_goals simp at hx
theorem RepP_cell {F : Nat → Prop} {x : PV} {v : Value} (h : RepP w F G x v) : RepP w F G x.cell v := by
 cases x with
 | sl o xs =>
  cases o with
  | own =>
   simp only [PV.cell, RepP] at h ⊢
   obtain ⟨a', cap, hv, hl, hm, ho, _⟩ := h
   obtain ⟨rfl, rfl, rfl⟩ := ho trivial
   exact ⟨none, 0, hv, by simp, hm, by simp, .inl trivial⟩
  | _ => exact h
 | _ => exact h
/-- A slice of the call's own, told by its elements. -/
theorem ref_told {z : Nat} {h h' : Nat → Blk} (ok : HeapOk w z M G h ι) (f : Frz h h') {id off len : Nat} {m : Bool} {c : List PV} {val : Value} (hb : h' id = .froz m c) (hle : off + len ≤ c.length)
  (hv : RepA w (Held h ι) G ι (.ref id off len) val) : RepP w (Held h' ι) G (.sl (.lent m) ((c.drop off).take len)) val := by
 have ok' := ok.frz f
 obtain ⟨h1, h2, h3⟩ := ok'.froz id m c hb
 simp only [RepA] at hv
 obtain ⟨a', cap, rfl, hlc, hcap, hcm, ha⟩ := hv
 have hlen : ((c.drop off).take len).length = len := by simp; omega
 simp only [RepP]
 refine ⟨a', cap, by rw [hlen], by rw [hlen]; exact hlc, by omega, ?_, ?_⟩
 ·intro e; cases m <;> simp [Fl.lent] at e
 ·by_cases h0 : len = 0
  ·left; exact List.eq_nil_of_length_eq_zero (by omega)
  ·right
   rcases h3 with h3 | ⟨hF, hG, hc⟩
   ·subst h3; simp at hle; omega
   ·rcases ha with ha | ha
    ·omega
    ·refine ⟨_, _, ha, hF, fun e => hG ?_, RepC_take (RepC_drop hc off) len⟩
     cases m
     ·rfl
     ·simp [Fl.lent] at e
theorem pub_sound {v : AV} {K : PV → List (Nat × Blk) → List Nat → Prop} (hp : pub S.h v K) :
  ∃ x ws rd, K x ws rd ∧ FrzL S.h ws ∧ x.cellOk = true ∧ (∀ p ∈ ws, p.1 ∈ rd) ∧
   ∀ {w : World} {z : Nat} {M G : Nat → Prop} {ι : Nat → Loc} {h' : Nat → Blk} {val : Value}, HeapOk w z M G S.h ι → Frz S.h h' → (∀ p ∈ ws, h' p.1 = p.2) → RepA w (Held S.h ι) G ι v val → RepP w (Held h' ι) G x val := by
 unfold pub at hp
 split at hp
 ·rename_i x
  refine ⟨_, _, _, hp.2, fun p hp => by simp at hp, hp.1, fun p hp => by simp at hp, ?_⟩
  intro w z M G ι h' val ok f _ hv
  exact RepP.tr (Stays.frz f w ι) (fun _ _ _ h => h) _ _ (RepP_cell hv)
 ·rename_i id off len
  split at hp
  ·rename_i m c hb
   refine ⟨_, _, _, hp.2, fun p hp => ?_, ?_, fun p hp => ?_, ?_⟩
   ·simp only [List.mem_singleton] at hp; subst hp; exact ⟨m, c, hb, rfl⟩
   ·cases m <;> rfl
   ·simp only [List.mem_singleton] at hp; subst hp; simp
   ·intro w z M G ι h' val ok f hw hv
    exact ref_told ok f (hw (id, .froz m c) (by simp)) hp.1 hv
  ·rename_i m c hb
   refine ⟨_, _, _, hp.2, fun p hp => by simp at hp, ?_, fun p hp => by simp at hp, ?_⟩
   ·cases m <;> rfl
   ·intro w z M G ι h' val ok f hw hv
    refine ref_told ok f ?_ hp.1 hv
    rcases f id with e | ⟨m', c', hl, _⟩
    ·rw [e]; exact hb
    ·rw [hb] at hl; cases hl
  ·exact hp.elim
 ·exact hp.elim
theorem FrzL.append {h : Nat → Blk} {l m : List (Nat × Blk)} (hl : FrzL h l) (hm : FrzL h m) : FrzL h (l ++ m) := fun p hp => by
 rcases List.mem_append.1 hp with hp | hp
 ·exact hl p hp
 ·exact hm p hp
theorem pubs_sound : ∀ {vs : List AV} {K : List PV → List (Nat × Blk) → List Nat → Prop}, pubs S.h vs K →
  ∃ xs ws rd, K xs ws rd ∧ FrzL S.h ws ∧ xs.length = vs.length ∧ (∀ x ∈ xs, x.cellOk = true) ∧ (∀ p ∈ ws, p.1 ∈ rd) ∧
   ∀ {w : World} {z : Nat} {M G : Nat → Prop} {ι : Nat → Loc} {h' : Nat → Blk}, HeapOk w z M G S.h ι → Frz S.h h' → (∀ p ∈ ws, h' p.1 = p.2) → ∀ (j : Nat) (v : AV) (val : Value) (x : PV), vs[j]? = some v → xs[j]? = some x → RepA w (Held S.h ι) G ι v val → RepP w (Held h' ι) G x val
 | [], K, hp => ⟨[], [], [], hp, fun p hp => by simp at hp, rfl, fun x hx => by simp at hx, fun p hp => by simp at hp, fun _ _ _ j v val x hj => by simp at hj⟩
 | v :: vs, K, hp => by
  simp only [pubs] at hp
  obtain ⟨x, ws, rd, hK, hf, hx, hw, hr⟩ := pub_sound hp
  obtain ⟨xs, ws', rd', hK', hf', hl, hxs, hw', hr'⟩ := pubs_sound hK
  refine ⟨x :: xs, ws ++ ws', rd ++ rd', hK', hf.append hf', by simp [hl], ?_, ?_, ?_⟩
  ·intro y hy
   rcases List.mem_cons.1 hy with rfl | hy
   ·exact hx
   ·exact hxs y hy
  ·intro p hp
   rcases List.mem_append.1 hp with hp | hp
   ·exact List.mem_append.2 (.inl (hw p hp))
   ·exact List.mem_append.2 (.inr (hw' p hp))
  ·intro w z M G ι h' ok f hh j u val y hj hy hv
   cases j with
   | zero =>
    simp only [List.getElem?_cons_zero, Option.some.injEq] at hj hy
    subst hj hy
    exact hr ok f (fun p hp => hh p (List.mem_append.2 (.inl hp))) hv
   | succ j =>
    simp only [List.getElem?_cons_succ] at hj hy
    exact hr' ok f (fun p hp => hh p (List.mem_append.2 (.inr hp))) j u val y hj hy hv
/-- A freezing sets what it says. -/
theorem hwsH_frz {h : Nat → Blk} {ws : List (Nat × Blk)} (hf : FrzL h ws) : ∀ p ∈ ws, hwsH h ws p.1 = p.2 := by
 have key : ∀ (ws : List (Nat × Blk)) (g : Nat → Blk) (i : Nat) (m : Bool) (c : List PV), FrzL h ws → h i = .live m c → (g i = .froz m c ∨ ∃ b, (i, b) ∈ ws) → hwsH g ws i = .froz m c := by
  intro ws
  induction ws with
  | nil =>
   intro g i m c _ _ hor
   rcases hor with hg | ⟨b, hb⟩
   ·exact hg
   ·simp at hb
  | cons p ws ih =>
   intro g i m c hw hi hor
   obtain ⟨j, b⟩ := p
   simp only [hwsH]
   refine ih _ i m c (fun q hq => hw q (by simp [hq])) hi ?_
   by_cases e : i = j
   ·subst e
    left
    obtain ⟨m', c', hl, hb⟩ := hw (i, b) (by simp)
    rw [hi] at hl
    cases hl
    simpa using hb
   ·rcases hor with hg | ⟨b', hb'⟩
    ·left; simp only [e, if_false]; exact hg
    ·right
     rcases List.mem_cons.1 hb' with h | h
     ·exact absurd (congrArg Prod.fst h) e
     ·exact ⟨b', h⟩
 intro p hp
 obtain ⟨m, c, hl, hb⟩ := hf p hp
 rw [key ws h p.1 m c hf hl (.inr ⟨p.2, hp⟩), hb]
end
end Go.Gl
namespace Go.Gl
open Go
variable [Amb]
/-- One block more; nothing else has turned (but for draws). -/
structure Pushed (w w' : World) (o : Obj) : Prop where
 heap : w'.heap = w.heap.push o
 os : w'.os = w.os
 tape : w'.tape = w.tape
 output : w'.output = w.output
 drawn : w.drawn ≤ w'.drawn
theorem Pushed.alloc (w : World) (o : Obj) : Pushed w (w.alloc o) o := ⟨rfl, rfl, rfl, rfl, Nat.le_refl _⟩
theorem Pushed.drew (w : World) (o : Obj) : Pushed w (w.drew.alloc o) o := ⟨rfl, rfl, rfl, rfl, Nat.le_succ _⟩
theorem cell?_eq (w : World) (B o : Nat) : w.cell? ⟨B, o, none⟩ = match w.heap[B]? with | some (.cells c _ _) => c[o]? | _ => none := rfl
theorem cell?_lt {w : World} {B o : Nat} {v : Value} (h : w.cell? ⟨B, o, none⟩ = some v) : B < w.heap.size := World.block_lt_of_cell? w _ h
theorem Pushed.old {w w' : World} {o : Obj} (h : Pushed w w' o) {B : Nat} (hB : B < w.heap.size) : w'.heap[B]? = w.heap[B]? := by
 rw [h.heap, Array.getElem?_push, if_neg (by omega)]
theorem Pushed.at {w w' : World} {o : Obj} (h : Pushed w w' o) : w'.heap[w.heap.size]? = some o := by rw [h.heap]; simp
theorem Pushed.size {w w' : World} {o : Obj} (h : Pushed w w' o) : w'.heap.size = w.heap.size + 1 := by rw [h.heap]; simp
theorem Pushed.cell {w w' : World} {o : Obj} (h : Pushed w w' o) {B i : Nat} (hB : B < w.heap.size) : w'.cell? ⟨B, i, none⟩ = w.cell? ⟨B, i, none⟩ := by
 simp only [cell?_eq, h.old hB]
theorem Keep.refl (w : World) (M : Nat → Prop) : Keep w w M := ⟨rfl, rfl, rfl, Nat.le_refl _, fun _ _ _ => rfl, fun _ => Nat.le_refl _⟩
theorem Keep.trans {a b c : World} {M : Nat → Prop} (h : Keep a b M) (k : Keep b c M) : Keep a c M :=
 ⟨k.os.trans h.os, k.tape.trans h.tape, k.output.trans h.output, Nat.le_trans h.size k.size, fun i hi hM => (k.block i (Nat.lt_of_lt_of_le hi h.size) hM).trans (h.block i hi hM), fun q => Nat.le_trans (h.drawn q) (k.drawn q)⟩
theorem Pushed.keep {w w' : World} {o : Obj} (h : Pushed w w' o) (M : Nat → Prop) : Keep w w' M :=
 ⟨h.os, h.tape, h.output, by rw [h.size]; omega, fun _ hk _ => h.old hk, fun _ => h.drawn⟩
section
variable {w0 : World} {nA nt : Nat} {M G : Nat → Prop} {ι0 : Nat → Loc} {A : Nat → Prop} {w w' : World} {S : St} {ι : Nat → Loc} {a : Act}
def updL (ι : Nat → Loc) (k : Nat) (l : Loc) : Nat → Loc := fun i => if i = k then l else ι i
def updH (h : Nat → Blk) (k : Nat) (b : Blk) : Nat → Blk := fun i => if i = k then b else h i
theorem held_lt {z : Nat} {h : Nat → Blk} (ok : HeapOk w z M G h ι) {B : Nat} (hh : Held h ι B) : B < w.heap.size := by
 obtain ⟨id, ho⟩ := hh
 exact (ok.ok id).lt ho
theorem held_upd {h : Nat → Blk} {k : Nat} {b : Blk} {l : Loc} {B : Nat} (hh : Held (updH h k b) (updL ι k l) B) : (∃ id, id ≠ k ∧ owns (h id) (ι id) B) ∨ owns b l B := by
 obtain ⟨id, ho⟩ := hh
 by_cases e : id = k
 ·subst e; simp only [updL, updH, if_true] at ho; exact .inr ho
 ·simp only [updH, updL, e, if_false] at ho
  exact .inl ⟨id, e, ho⟩
theorem Stays.newB {o : Obj} (hp : Pushed w w' o) {h : Nat → Blk} {k : Nat} {b : Blk} {l : Loc} (hl : ∀ B, owns b l B → B = w.heap.size) :
  Stays w w' (Held h ι) (Held (updH h k b) (updL ι k l)) := by
 intro B i v hF hv
 have hlt := cell?_lt hv
 refine ⟨by rw [hp.cell hlt]; exact hv, fun hh => ?_⟩
 rcases held_upd hh with ⟨id, _, hh⟩ | hh
 ·exact hF ⟨id, hh⟩
 ·have := hl B hh; omega
theorem Stays.new {o : Obj} (hp : Pushed w w' o) {h : Nat → Blk} {k : Nat} {m : Bool} {xs : List PV} {l : Loc} (hl : l.B = w.heap.size) :
  Stays w w' (Held h ι) (Held (updH h k (.live m xs)) (updL ι k l)) := Stays.newB hp fun B ho => ho.2.symm.trans hl
/-- A new block, whatever it is. -/
theorem HeapOk.newB {z : Nat} {h : Nat → Blk} {k : Nat} (ok : HeapOk w z M G h ι) {o : Obj} (hp : Pushed w w' o) {b : Blk} {l : Loc} (hl : ∀ B, owns b l B → B = w.heap.size)
  (hb : okB w' (Held (updH h k b) (updL ι k l)) G (Org z M G) b l) : HeapOk w' z M G (updH h k b) (updL ι k l) := by
 refine ok.upd (Stays.newB hp hl) (fun id => ?_) fun id id' B ho ho' => ?_
 ·by_cases e : id = k
  ·subst e; right; simpa only [updH, updL, if_true] using hb
  ·left
   refine ⟨by simp only [updH, e, if_false], by simp only [updL, e, if_false], fun B ho => hp.old ((ok.ok id).lt ho)⟩
 ·by_cases e : id = k
  ·subst e
   by_cases e' : id' = id
   ·exact e'.symm
   ·simp only [updH, updL, if_true] at ho
    simp only [updH, updL, e', if_false] at ho'
    have h1 := hl B ho
    have h2 := (ok.ok id').lt ho'
    omega
  ·simp only [updH, updL, e, if_false] at ho
   by_cases e' : id' = k
   ·subst e'
    simp only [updH, updL, if_true] at ho'
    have h1 := hl B ho'
    have h2 := (ok.ok id).lt ho
    omega
   ·simp only [updH, updL, e', if_false] at ho'
    exact ok.apart id id' B ho ho'
/-- A new block in memory, which is the call's own from here on, with room to spare or none. -/
theorem HeapOk.new {z : Nat} {h : Nat → Blk} {k : Nat} (ok : HeapOk w z M G h ι) (_ : h k = .dead) {cs : Array Value} {E : TypeId} {lo hi : Nat} (hp : Pushed w w' (.cells cs E (lo, hi)))
  (hz : z ≤ w.heap.size) (hG : G w.heap.size) (hfr : hi ≤ lo ∨ SB = true ∧ cs.size ≤ lo) (m : Bool) (xs : List PV) (cap : Nat) (hcap : cap ≤ maxLen) (hc : cap ≤ cs.size) (hx : xs.length ≤ cap)
  (hxs : ∀ (j : Nat) (x : PV), xs[j]? = some x → ∃ v, cs[j]? = some v ∧ v.oneCell' = true ∧ RepP w (Held h ι) G x v) :
  HeapOk w' z M G (updH h k (.live m xs)) (updL ι k ⟨w.heap.size, 0, cap, 0, noInn⟩) := by
 have st := Stays.new (w := w) (w' := w') (ι := ι) hp (h := h) (k := k) (m := m) (xs := xs) (l := ⟨w.heap.size, 0, cap, 0, noInn⟩) rfl
 refine ok.newB hp (fun B ho => ho.2.symm) ⟨hx, hcap, .inr ⟨⟨cs, E, lo, hi, hp.at, by simpa using hc, hfr⟩, ?_, .inl ⟨hz, hG⟩⟩⟩
 rw [RepC_iff]
 intro j x hj
 obtain ⟨v, hv, h1, hr⟩ := hxs j x hj
 refine ⟨v, ?_, h1, RepP.tr st (fun _ _ _ h => h) _ _ hr⟩
 rw [cell?_eq, hp.at]; simpa using hv
/-- A block of no memory. -/
theorem HeapOk.nilB {z : Nat} {h : Nat → Blk} {k : Nat} (ok : HeapOk w z M G h ι) (b : Blk) (l : Loc) (hl : ∀ B, ¬ owns b l B) (hb : ∀ F, okB w F G (Org z M G) b l) : HeapOk w z M G (updH h k b) (updL ι k l) ∧
  (∀ B, Held (updH h k b) (updL ι k l) B → Held h ι B) := by
 have hh : ∀ B, Held (updH h k b) (updL ι k l) B → Held h ι B := by
  intro B hB
  rcases held_upd hB with ⟨id, _, ho⟩ | ho
  ·exact ⟨id, ho⟩
  ·exact (hl B ho).elim
 have st : Stays w w (Held h ι) (Held (updH h k b) (updL ι k l)) := fun B o v hF hv => ⟨hv, fun h' => hF (hh B h')⟩
 refine ⟨ok.upd st (fun id => ?_) fun id id' B ho ho' => ?_, hh⟩
 ·by_cases e : id = k
  ·subst e; right; simpa only [updH, updL, if_true] using hb _
  ·left; exact ⟨by simp only [updH, e, if_false], by simp only [updL, e, if_false], fun _ _ => rfl⟩
 ·by_cases e : id = k
  ·subst e; simp only [updH, updL, if_true] at ho; exact (hl B ho).elim
  ·by_cases e' : id' = k
   ·subst e'; simp only [updH, updL, if_true] at ho'; exact (hl B ho').elim
   ·simp only [updH, updL, e, if_false] at ho
    simp only [updH, updL, e', if_false] at ho'
    exact ok.apart id id' B ho ho'
/-- A block of no cells (the nil slice). -/
theorem HeapOk.nil {z : Nat} {h : Nat → Blk} {k : Nat} (ok : HeapOk w z M G h ι) (_ : h k = .dead) (m : Bool) (l : Loc) (hl0 : l.cap = 0) : HeapOk w z M G (updH h k (.live m [])) (updL ι k l) ∧
  (∀ B, Held (updH h k (.live m [])) (updL ι k l) B → Held h ι B) :=
 ok.nilB _ l (fun B ho => ho.1 hl0) fun F => ⟨by simp, by omega, .inl hl0⟩
theorem HeapOk.kill {z : Nat} {h : Nat → Blk} (ok : HeapOk w z M G h ι) (k : Nat) : HeapOk w z M G (updH h k .dead) ι ∧ (∀ B, Held (updH h k .dead) ι B → Held h ι B) := by
 have e : updL ι k (ι k) = ι := by funext i; simp only [updL]; split <;> simp_all
 have := ok.nilB (k := k) .dead (ι k) (fun B ho => ho) fun F => trivial
 rwa [e] at this
/-- The cells of one block have turned; nothing else (but for draws). -/
structure Wrote (w w' : World) (B : Nat) (cs' : Array Value) : Prop where
 size : w'.heap.size = w.heap.size
 at_ : ∃ cs E fr, w.heap[B]? = some (.cells cs E fr) ∧ w'.heap[B]? = some (.cells cs' E fr) ∧ cs'.size = cs.size
 other : ∀ k, k ≠ B → w'.heap[k]? = w.heap[k]?
 os : w'.os = w.os
 tape : w'.tape = w.tape
 output : w'.output = w.output
 drawn : w'.drawn = w.drawn
/-- A block of the call's own turned, which is known from here on as block k (k may be the old number): what other blocks lie in stays. -/
theorem HeapOk.writeB {z : Nat} {h : Nat → Blk} {id k : Nat} (ok : HeapOk w z M G h ι) (hk : k = id ∨ h k = .dead) {b : Blk} {l : Loc} (hw : ∀ B, ¬ owns (h id) (ι id) B → w'.heap[B]? = w.heap[B]?)
  (hl : ∀ B, owns b l B → owns (h id) (ι id) B)
  (hb : Stays w w' (Held h ι) (Held (updH (updH h id .dead) k b) (updL ι k l)) → okB w' (Held (updH (updH h id .dead) k b) (updL ι k l)) G (Org z M G) b l) :
  HeapOk w' z M G (updH (updH h id .dead) k b) (updL ι k l) ∧
  (∀ B, Held (updH (updH h id .dead) k b) (updL ι k l) B → Held h ι B) ∧
  Stays w w' (Held h ι) (Held (updH (updH h id .dead) k b) (updL ι k l)) := by
 have back : ∀ {i B}, i ≠ k → owns (updH (updH h id .dead) k b i) (updL ι k l i) B → i ≠ id ∧ owns (h i) (ι i) B := by
  intro i B hne ho
  simp only [updH, updL, hne, if_false] at ho
  by_cases e : i = id
  ·simp only [e, if_true] at ho; exact ho.elim
  ·simp only [e, if_false] at ho; exact ⟨e, ho⟩
 have at_ : ∀ {B}, owns (updH (updH h id .dead) k b k) (updL ι k l k) B → owns (h id) (ι id) B := fun {B} ho => hl B (by simpa only [updH, updL, if_true] using ho)
 have hh : ∀ B, Held (updH (updH h id .dead) k b) (updL ι k l) B → Held h ι B := by
  rintro B ⟨i, ho⟩
  by_cases e : i = k
  ·subst e; exact ⟨id, at_ ho⟩
  ·exact ⟨i, (back e ho).2⟩
 have st : Stays w w' (Held h ι) (Held (updH (updH h id .dead) k b) (updL ι k l)) := fun B o v hF hv =>
  ⟨by rw [cell?_same (hw B fun ho => hF ⟨id, ho⟩)]; exact hv, fun h' => hF (hh B h')⟩
 refine ⟨ok.upd st (fun i => ?_) fun i i' B ho ho' => ?_, hh, st⟩
 ·by_cases e : i = k
  ·subst e; right; have := hb st; simpa only [updH, updL, if_true] using this
  ·by_cases e' : i = id
   ·right
    have e2 : updH (updH h id .dead) k b i = .dead := by subst e'; simp only [updH, e, if_false, if_true]
    rw [e2]; trivial
   ·left
    refine ⟨by simp only [updH, e, e', if_false], by simp only [updL, e, if_false], fun B ho => hw B fun ho' => e' (ok.apart i id B ho ho')⟩
 ·by_cases e : i = k
  ·subst e
   by_cases e' : i' = i
   ·exact e'.symm
   ·obtain ⟨hni, ho2⟩ := back e' ho'
    exact absurd (ok.apart i' id B ho2 (at_ ho)) hni
  ·obtain ⟨hni, ho1⟩ := back e ho
   by_cases e' : i' = k
   ·subst e'
    exact absurd (ok.apart i id B ho1 (at_ ho')) hni
   ·exact ok.apart i i' B ho1 (back e' ho').2
/-- Some blocks turned (those of X): block k takes memory of theirs, or new memory. -/
theorem HeapOk.writeS {z : Nat} {h h' : Nat → Blk} {ι' : Nat → Loc} {k : Nat} (ok : HeapOk w z M G h ι) (X : Nat → Prop)
  (same : ∀ i, ¬ X i → i ≠ k → h' i = h i ∧ ι' i = ι i)
  (shrunk : ∀ i, X i → i ≠ k → ∀ B, owns (h' i) (ι' i) B → owns (h i) (ι i) B)
  (keepw : ∀ B, B < w.heap.size → (∀ i, X i → ¬ owns (h i) (ι i) B) → w'.heap[B]? = w.heap[B]?)
  (src : ∀ B, owns (h' k) (ι' k) B → w.heap.size ≤ B ∨ ∃ i, X i ∧ owns (h i) (ι i) B ∧ (i ≠ k → ¬ owns (h' i) (ι' i) B))
  (okX : Stays w w' (Held h ι) (Held h' ι') → ∀ i, X i ∨ i = k → okB w' (Held h' ι') G (Org z M G) (h' i) (ι' i)) :
  HeapOk w' z M G h' ι' ∧ (∀ B, Held h' ι' B → Held h ι B ∨ w.heap.size ≤ B) ∧ Stays w w' (Held h ι) (Held h' ι') := by
 have old : ∀ {i B}, i ≠ k → owns (h' i) (ι' i) B → owns (h i) (ι i) B := by
  intro i B hne ho
  by_cases hx : X i
  ·exact shrunk i hx hne B ho
  ·obtain ⟨e1, e2⟩ := same i hx hne
   rwa [e1, e2] at ho
 have hh : ∀ B, Held h' ι' B → Held h ι B ∨ w.heap.size ≤ B := by
  rintro B ⟨i, ho⟩
  by_cases e : i = k
  ·subst e
   rcases src B ho with h1 | ⟨x, _, h1, _⟩
   ·exact .inr h1
   ·exact .inl ⟨x, h1⟩
  ·exact .inl ⟨i, old e ho⟩
 have st : Stays w w' (Held h ι) (Held h' ι') := fun B o v hF hv => by
  have hlt := cell?_lt hv
  refine ⟨by rw [cell?_same (keepw B hlt fun i _ ho => hF ⟨i, ho⟩)]; exact hv, fun h1 => ?_⟩
  rcases hh B h1 with h1 | h1
  ·exact hF h1
  ·omega
 have cross : ∀ {i B}, i ≠ k → owns (h' i) (ι' i) B → owns (h' k) (ι' k) B → False := by
  intro i B hne ho hk
  have h1 := old hne ho
  rcases src B hk with h2 | ⟨x, _, h2, h3⟩
  ·have := (ok.ok i).lt h1; omega
  ·have e := ok.apart i x B h1 h2
   subst e
   exact h3 hne ho
 refine ⟨ok.upd st (fun i => ?_) fun i i' B ho ho' => ?_, hh, st⟩
 ·by_cases hx : X i ∨ i = k
  ·exact .inr (okX st i hx)
  ·have h1 : ¬ X i := fun e => hx (.inl e)
   have h2 : i ≠ k := fun e => hx (.inr e)
   obtain ⟨e1, e2⟩ := same i h1 h2
   refine .inl ⟨e1, e2, fun B ho => keepw B ((ok.ok i).lt ho) fun x hx' ho' => h1 (ok.apart i x B ho ho' ▸ hx')⟩
 ·by_cases e : i = k
  ·by_cases e' : i' = k
   ·rw [e, e']
   ·exact (cross e' ho' (e ▸ ho)).elim
  ·by_cases e' : i' = k
   ·exact (cross e ho (e' ▸ ho')).elim
   ·exact ok.apart i i' B (old e ho) (old e' ho')
/-- A write into a block of the call's own, which is known from here on as block k (k may be the old number). -/
theorem HeapOk.write {z : Nat} {h : Nat → Blk} {id k : Nat} {m : Bool} {c c' : List PV} (ok : HeapOk w z M G h ι) (hid : h id = .live m c) (hk : k = id ∨ h k = .dead) (h0 : (ι id).cap ≠ 0)
  {cs' : Array Value} (hw : Wrote w w' (ι id).B cs') (off' cap' n' : Nat) (inn' : Nat → Nat × Nat × Nat) (ho : (ι id).off ≤ off') (hoc : off' + cap' = (ι id).off + (ι id).cap) (hlen : c'.length ≤ cap')
  (hc' : ∀ (j : Nat) (x : PV), c'[j]? = some x → ∃ v, cs'[off' + j]? = some v ∧ v.oneCell' = true ∧ RepP w (Held h ι) G x v) :
  HeapOk w' z M G (updH (updH h id .dead) k (.live m c')) (updL ι k ⟨(ι id).B, off', cap', n', inn'⟩) ∧
  (∀ B, Held (updH (updH h id .dead) k (.live m c')) (updL ι k ⟨(ι id).B, off', cap', n', inn'⟩) B → Held h ι B) ∧
  Stays w w' (Held h ι) (Held (updH (updH h id .dead) k (.live m c')) (updL ι k ⟨(ι id).B, off', cap', n', inn'⟩)) := by
 have hown : owns (h id) (ι id) (ι id).B := owns_live hid h0
 obtain ⟨g1, g2, g3⟩ := ok.live id m c hid
 rcases g3 with g3 | ⟨⟨cs, E, lo, hi, hcell, hfit, hfr⟩, _, gx⟩
 ·exact absurd g3 h0
 obtain ⟨cs1, E1, fr1, hb1, hb2, hsz⟩ := hw.at_
 rw [hcell] at hb1
 cases hb1
 refine ok.writeB hk (fun B ho => hw.other B fun e => ho (e ▸ hown)) (fun B ho => ho.2 ▸ hown) fun st => ?_
 refine ⟨hlen, by simp only; omega, .inr ⟨⟨cs', E, lo, hi, hb2, by rw [hsz]; simp only; omega, by rw [hsz]; exact hfr⟩, ?_, gx⟩⟩
 rw [RepC_iff]
 intro j x hj
 obtain ⟨v, hv, h1, hr⟩ := hc' j x hj
 exact ⟨v, by rw [cell?_eq, hb2]; exact hv, h1, RepP.tr st (fun _ _ _ h => h) _ _ hr⟩
/-- THE STEP, in general: a world, a heap, places, all carried on. -/
theorem Rel.step (h : Rel w0 nA nt M G ι0 A w S ι a) {A' : Nat → Prop} {h' : Nat → Blk} {ι' : Nat → Loc} (hA : ∀ i, A i → A' i) (hk : Keep w w' M) (ok : HeapOk w' w0.heap.size M G h' ι')
  (st : Stays w w' (Held S.h ι) (Held h' ι')) (hι : ∀ i, A i → LocEq (ι i) (ι' i)) (hdead : ∀ i, ¬ A' i → h' i = .dead) : Rel w0 nA nt M G ι0 A' w' { S with h := h' } ι' a :=
 ⟨h.keep.trans hk, ok, fun t => RepA.tr st (fun _ _ _ h => h) _ _ (fun i hi => hι i (h.named t i hi)) (h.slots t), hdead, fun t i hi => hA i (h.named t i hi),
  fun j hj => (h.loc j hj).trans (hι j (h.args j hj)), fun j hj => hA j (h.args j hj), h.new, h.size, h.defers⟩
end
end Go.Gl
namespace Go.Gl
open Go
variable [Amb]
section
variable {P : Program} {sg : FuncId → List Bool} {w0 : World} {nA nt : Nat} {M G : Nat → Prop} {ι0 : Nat → Loc} {A : Nat → Prop} {w : World} {S : St} {ι : Nat → Loc} {a : Act}
theorem wrap_in {k : IntKind} {n : Int} (h : inR k n) : k.wrap n = n := by
 obtain ⟨h1, h2⟩ := h
 cases k <;> simp [IntKind.min, IntKind.max, IntKind.signed, IntKind.bits, IntKind.wrap] at h1 h2 ⊢ <;> (try split) <;> omega
theorem ofConst1_rep {F : Nat → Prop} (v : Value) : RepP w F G (ofConst1 v) v := by
 unfold ofConst1
 split
 ·simp [RepP]
 ·simp [RepP]
 ·simp [RepP]
 ·simp only [RepP]; exact ⟨none, 0, rfl, by simp, by simp, fun _ => ⟨trivial, rfl, rfl⟩, .inl trivial⟩
 ·simp [RepP]
 ·simp [RepP]
theorem RepL_map1 {F : Nat → Prop} : ∀ (cs : List Value), RepL w F G (cs.map ofConst1) cs
 | [] => by simp [RepL]
 | c :: cs => by simp only [List.map_cons, RepL]; exact ⟨c, cs, rfl, ofConst1_rep c, RepL_map1 cs⟩
theorem ofConst_rep {F : Nat → Prop} (v : Value) : RepP w F G (ofConst v) v := by
 unfold ofConst
 split
 ·rename_i cs
  simp only [RepP]
  exact ⟨cs.toList, rfl, RepL_map1 _⟩
 ·exact ofConst1_rep v
theorem Rel.opd (h : Rel w0 nA nt M G ι0 A w S ι a) (x : Operand) : RepA w (Held S.h ι) G ι (Gl.opd S x) (a.eval x) := by
 cases x with
 | tmp t => exact h.slots t
 | const v => exact ofConst_rep v
 | func f => simp only [Gl.opd, RepA, RepP, Act.eval]; exact ⟨[], [], rfl, by simp [RepL], by simp [RepL]⟩
 | global g => simp only [Gl.opd, RepA, RepP]
theorem Rel.opd_named (h : Rel w0 nA nt M G ι0 A w S ι a) (x : Operand) : ∀ i, (Gl.opd S x).has i = true → A i := by
 cases x with
 | tmp t => exact h.named t
 | const v => simp [Gl.opd, AV.has]
 | func f => simp [Gl.opd, AV.has]
 | global g => simp [Gl.opd, AV.has]
theorem app_eq (S : St) (d : Option Nat) (r : R) : S.app d r = ({ S with h := hwsH S.h r.ws } : St).puto d r.v := by
 cases d <;> rfl
/-- The numbers given, with those of one operation. -/
def plus (A : Nat → Prop) (k : Nat) : Nat → Prop := fun i => A i ∨ (k ≤ i ∧ i < k + 256)
theorem wp_value {o : Oper} {K : Act → World → Prop} {Q : Exit → Act → World → Prop} {v : Value} {w' : World} (h : (execOp a.eval o).run P w = .ok (.value v) w') (hk : K (a.put o.dst v) w') : o.wp P a w K Q := by
 unfold Oper.wp; rw [h]; exact hk
theorem wp_skip' {o : Oper} {K : Act → World → Prop} {Q : Exit → Act → World → Prop} {w' : World} (h : (execOp a.eval o).run P w = .ok .skip w') (hk : K (a.put o.dst undef) w') : o.wp P a w K Q := by
 unfold Oper.wp; rw [h]; exact hk
/-- What an operation must do: one line for all of them. -/
def Does (P : Program) (w0 : World) (nA nt : Nat) (M G : Nat → Prop) (ι0 : Nat → Loc) (A : Nat → Prop) (k : Nat) (o : Oper) (w : World) (S : St) (a : Act) (K : R → Prop) : Prop :=
 ∀ (Kc : Act → World → Prop) (Qc : Exit → Act → World → Prop), (∀ r val w' ι', K r → Rel w0 nA nt M G ι0 (plus A k) w' (S.app o.dst r) ι' (a.put o.dst val) → Kc (a.put o.dst val) w') → o.wp P a w Kc Qc
/-- Nothing written, nothing made. -/
theorem does_value {o : Oper} {k : Nat} {K : R → Prop} (h : Rel w0 nA nt M G ι0 A w S ι a) (hd : ∀ d, o.dst = some d → d < nt) {v : AV} {val : Value} {rd : List Nat}
  (hr : (execOp a.eval o).run P w = .ok (.value val) w) (hv : RepA w (Held S.h ι) G ι v val) (hn : ∀ i, v.has i = true → A i) (hK : K ⟨v, [], rd⟩) : Does P w0 nA nt M G ι0 A k o w S a K := by
 intro Kc Qc next
 refine wp_value hr (next _ _ _ ι hK ?_)
 rw [app_eq]
 exact (h.put o.dst hd hv hn).mono fun i hi => .inl hi
/-- An own nil slice arrives. -/
theorem does_arr {o : Oper} {k : Nat} {K : R → Prop} (h : Rel w0 nA nt M G ι0 A w S ι a) (hd : ∀ d, o.dst = some d → d < nt) (hA : ∀ x, x < 256 → ¬ A (k + x)) {v : AV} {val : Value}
  (hr : (execOp a.eval o).run P w = .ok (.value val) w) (hv : RepA w (Held S.h ι) G ι v val) (hn : ∀ i, v.has i = true → A i) (hK : arr k v K) : Does P w0 nA nt M G ι0 A k o w S a K := by
 unfold arr at hK
 split at hK
 ·rename_i xs
  simp only [RepA, RepP] at hv
  obtain ⟨a', cap, rfl, _, _, ho, _⟩ := hv
  obtain ⟨rfl, rfl, rfl⟩ := ho trivial
  intro Kc Qc next
  have hk : ¬ A k := hA 0 (by omega)
  obtain ⟨ok, hh⟩ := h.heap.nil (h.alloc k hk) false ⟨0, 0, 0, 0, noInn⟩ rfl
  have st : Stays w w (Held S.h ι) (Held (updH S.h k (.live false [])) (updL ι k ⟨0, 0, 0, 0, noInn⟩)) := fun B o v hF hv => ⟨hv, fun h' => hF (hh B h')⟩
  have h1 := h.step (A' := plus A k) (fun i hi => .inl hi) (Keep.refl w M) ok st (fun i hi => by
   have : i ≠ k := fun e => hk (e ▸ hi)
   simp [updL, this, LocEq.refl]) (fun i hi => by
   have hne : i ≠ k := fun e => hi (.inr ⟨by omega, by omega⟩)
   simp only [updH, hne, if_false]
   exact h.alloc i fun hA => hi (.inl hA))
  refine wp_value hr (next _ _ _ (updL ι k ⟨0, 0, 0, 0, noInn⟩) hK ?_)
  rw [app_eq]
  refine h1.put o.dst hd ?_ ?_
  ·simp only [RepA]
   exact ⟨none, 0, rfl, by simp, by simp [updL], by simp [updL], .inl rfl⟩
  ·intro i hi
   simp [AV.has] at hi
   exact .inr ⟨by omega, by omega⟩
 ·exact does_value h hd hr hv hn hK
theorem rep_int {F : Nat → Prop} {k : IntKind} {n : Int} {v : Value} (h : RepA w F G ι (.p (.int k n)) v) : v = .int k n := by simpa [RepA, RepP] using h
theorem rep_bool {F : Nat → Prop} {b : Bool} {v : Value} (h : RepA w F G ι (.p (.bool b)) v) : v = .bool b := by simpa [RepA, RepP] using h
theorem rep_str {F : Nat → Prop} {s : List UInt8} {v : Value} (h : RepA w F G ι (.p (.str s)) v) : v = .string ⟨s.toArray⟩ := by simpa [RepA, RepP] using h
theorem does_move {o : Oper} {k : Nat} {K : R → Prop} (h : Rel w0 nA nt M G ι0 A w S ι a) (hd : ∀ d, o.dst = some d → d < nt) (hA : ∀ x, x < 256 → ¬ A (k + x)) {x : Operand} (ho : o.op = .move x ∨ o.op = .assign x)
  (hK : arr k (Gl.opd S x) K) : Does P w0 nA nt M G ι0 A k o w S a K := by
 refine does_arr h hd hA (val := a.eval x) ?_ (h.opd x) (h.opd_named x) hK
 rcases ho with ho | ho <;> simp [execOp, ho]
theorem does_pick {o : Oper} {k : Nat} {K : R → Prop} (h : Rel w0 nA nt M G ι0 A w S ι a) (hd : ∀ d, o.dst = some d → d < nt) (hA : ∀ x, x < 256 → ¬ A (k + x)) {c x y : Operand} (ho : o.op = .pick c x y)
  (hK : pickW (Gl.opd S c) (Gl.opd S x) (Gl.opd S y) fun v => arr k v K) : Does P w0 nA nt M G ι0 A k o w S a K := by
 have hc := h.opd c
 have hx := h.opd x
 have hy := h.opd y
 have nx := h.opd_named x
 have ny := h.opd_named y
 unfold pickW at hK
 split at hK
 ·rename_i t e
  rw [e] at hc
  have hc := rep_bool hc
  have hr : (execOp a.eval o).run P w = .ok (.value (if t then a.eval x else a.eval y)) w := by simp [execOp, ho, hc, asBool]
  split at hK
  ·rename_i u v e1 e2
   rw [e1] at hx; rw [e2] at hy
   have hx := rep_bool hx
   have hy := rep_bool hy
   refine does_arr h hd hA hr ?_ (by simp [AV.has]) hK
   simp only [RepA, RepP, hx, hy]
   cases t <;> rfl
  ·refine does_arr h hd hA hr ?_ ?_ hK
   ·cases t
    ·exact hy
    ·exact hx
   ·cases t
    ·exact ny
    ·exact nx
 ·exact hK.elim
theorem eqGuard_int {op : BinOp} {t : TypeId} {x y : Operand} {k k' : IntKind} {i j : Int} : (eqGuard op t x y (.int k i) (.int k' j)).run P w = .ok () w := by
 unfold eqGuard; cases op <;> simp
theorem eqGuard_str {op : BinOp} {t : TypeId} {x y : Operand} {i j : ByteArray} : (eqGuard op t x y (.string i) (.string j)).run P w = .ok () w := by
 unfold eqGuard; cases op <;> simp
theorem eqGuard_bool {op : BinOp} {t : TypeId} {x y : Operand} {i j : Bool} : (eqGuard op t x y (.bool i) (.bool j)).run P w = .ok () w := by
 unfold eqGuard; cases op <;> simp
theorem bytesLess_eq : ∀ (x y : List UInt8), Op.bytesLess x y = lexLt x y
 | _, [] => by simp [Op.bytesLess, lexLt]
 | [], _ :: _ => by simp [Op.bytesLess, lexLt]
 | a :: x, b :: y => by simp [Op.bytesLess, lexLt, bytesLess_eq x y]
theorem and_nat {k : IntKind} {x y : Int} (hx0 : 0 ≤ x) (hy0 : 0 ≤ y) (hx : inR k x) (hy : inR k y) :
  k.wrap ((BitVec.ofInt k.bits x &&& BitVec.ofInt k.bits y).toNat : Int) = ((x.toNat &&& y.toNat : Nat) : Int) := by
 obtain ⟨n, rfl⟩ := Int.eq_ofNat_of_zero_le hx0
 obtain ⟨m, rfl⟩ := Int.eq_ofNat_of_zero_le hy0
 have hb : k.max < 2 ^ k.bits := by cases k <;> simp [IntKind.max, IntKind.signed, IntKind.bits]
 have hn : n < 2 ^ k.bits := by have := hx.2; exact_mod_cast (show (n : Int) < 2 ^ k.bits by omega)
 have hm : m < 2 ^ k.bits := by have := hy.2; exact_mod_cast (show (m : Int) < 2 ^ k.bits by omega)
 have e : (BitVec.ofInt k.bits (n : Int) &&& BitVec.ofInt k.bits (m : Int)).toNat = n &&& m := by
  rw [BitVec.toNat_and]
  simp only [BitVec.ofInt_natCast, BitVec.toNat_ofNat, Nat.mod_eq_of_lt hn, Nat.mod_eq_of_lt hm]
 rw [e]
 have hle : n &&& m ≤ n := Nat.and_le_left
 simp only [Int.toNat_natCast]
 refine wrap_in ⟨?_, ?_⟩
 ·have := hx.1
  have : k.min ≤ 0 := by cases k <;> simp [IntKind.min, IntKind.signed, IntKind.bits]
  omega
 ·have := hx.2; omega
theorem RepP_int {F : Nat → Prop} {k : IntKind} {n : Int} : RepP w F G (.int k n) (.int k n) := by simp only [RepP]
theorem RepP_bool {F : Nat → Prop} {b : Bool} : RepP w F G (.bool b) (.bool b) := by simp only [RepP]
theorem RepP_str {F : Nat → Prop} {s : List UInt8} : RepP w F G (.str s) (.string ⟨s.toArray⟩) := by simp only [RepP]
theorem run_nil_in (d : Nat) (t e : TypeId) (a : Option Addr) (l c : Nat) (h : P.underlying t = some (.slice e)) : (Op.equalIn (d + 1) t (.slice a l c) (.slice none 0 0)).run P w = .ok a.isNone w := by
 cases a <;> simp [Op.equalIn, run_underlying h]
theorem run_nil_op (t e : TypeId) (a : Option Addr) (l c : Nat) (h : P.underlying t = some (.slice e)) : (Op.equal t (.slice a l c) (.slice none 0 0)).run P w = .ok a.isNone w := run_nil_in 9999 t e a l c h
theorem run_nil_eql (t : TypeId) (a : Option Addr) (l c : Nat) (h : slcT P t) : (binOp .eql t (.slice a l c) (.slice none 0 0)).run P w = .ok (.bool a.isNone) w := by
 obtain ⟨e, h⟩ := h
 simp only [binOp]
 simp [run_nil_op t e a l c h]
theorem run_nil_neq (t : TypeId) (a : Option Addr) (l c : Nat) (h : slcT P t) : (binOp .neq t (.slice a l c) (.slice none 0 0)).run P w = .ok (.bool (!a.isNone)) w := by
 obtain ⟨e, h⟩ := h
 simp only [binOp]
 simp [run_nil_op t e a l c h]
theorem eqGuard_sl {op : BinOp} {t : TypeId} {x y : Operand} {a b : Option Addr} {i j k l : Nat} : (eqGuard op t x y (.slice a i j) (.slice b k l)).run P w = .ok () w := by
 unfold eqGuard; cases op <;> simp
theorem nil_spec {x : AV} {u : Value} {F : Nat → Prop} {K : Bool → Prop} (hx : RepA w F G ι x u) (hK : nilW x K) : ∃ a l c, u = .slice a l c ∧ K a.isNone := by
 unfold nilW at hK
 split at hK
 ·simp only [RepA, RepP] at hx; exact ⟨_, _, _, hx, hK⟩
 ·simp only [RepA, RepP] at hx
  obtain ⟨a, cap, rfl, _, _, ho, _⟩ := hx
  obtain ⟨_, rfl, _⟩ := ho trivial
  exact ⟨_, _, _, rfl, hK⟩
 ·simp only [RepA, RepP] at hx
  obtain ⟨a, cap, rfl, _, _, _, ho⟩ := hx
  rcases ho with rfl | ⟨B, off, rfl, _⟩
  ·simp at hK
  ·exact ⟨_, _, _, rfl, hK.2⟩
 ·simp only [RepA] at hx
  obtain ⟨a, cap, rfl, h1, _, _, h4⟩ := hx
  rcases h4 with h4 | rfl
  ·omega
  ·exact ⟨_, _, _, rfl, hK.2⟩
 ·simp only [RepA] at hx
  obtain ⟨_, a, cap, rfl, h1, _, _, h4⟩ := hx
  rcases h4 with h4 | rfl
  ·omega
  ·exact ⟨_, _, _, rfl, hK.2⟩
 ·exact hK.elim
theorem run_bin {op : BinOp} {t : TypeId} {x y : AV} {u v : Value} {K : PV → Prop} {F : Nat → Prop} (hx : RepA w F G ι x u) (hy : RepA w F G ι y v) (hK : binW P op t x y K) :
  ∃ z, K z ∧ (∃ val, RepP w F G z val ∧ ∀ ox oy, (do eqGuard op t ox oy u v; binOp op t u v : Sem Value).run P w = .ok val w) := by
 unfold binW at hK
 split at hK
 ·rename_i k i k' j
  have hx := rep_int hx
  have hy := rep_int hy
  subst hx hy
  split at hK
  ·obtain ⟨rfl, hr, hk⟩ := hK
   exact ⟨_, hk, _, RepP_int, fun ox oy => by simp [eqGuard_int, binOp, Op.intArith, wrap_in hr]⟩
  ·obtain ⟨rfl, hr, hk⟩ := hK
   exact ⟨_, hk, _, RepP_int, fun ox oy => by simp [eqGuard_int, binOp, Op.intArith, wrap_in hr]⟩
  ·obtain ⟨rfl, hr, hk⟩ := hK
   exact ⟨_, hk, _, RepP_int, fun ox oy => by simp [eqGuard_int, binOp, Op.intArith, wrap_in hr]⟩
  ·obtain ⟨rfl, h0, hr, hk⟩ := hK
   exact ⟨_, hk, _, RepP_int, fun ox oy => by simp [eqGuard_int, binOp, Op.intDiv, h0, wrap_in hr]⟩
  ·obtain ⟨rfl, h0, hk⟩ := hK
   exact ⟨_, hk, _, RepP_int, fun ox oy => by simp [eqGuard_int, binOp, Op.intDiv, h0]⟩
  ·obtain ⟨h0, h1, hr, hk⟩ := hK
   refine ⟨_, hk, _, RepP_int, fun ox oy => ?_⟩
   have n0 : ¬ j < 0 := by omega
   have n1 : min j.toNat k.bits = j.toNat := by omega
   simp [eqGuard_int, binOp, Op.shift, n0, n1, wrap_in hr]
  ·obtain ⟨h0, h1, hk⟩ := hK
   refine ⟨_, hk, _, RepP_int, fun ox oy => ?_⟩
   have n0 : ¬ j < 0 := by omega
   have n1 : min j.toNat k.bits = j.toNat := by omega
   simp [eqGuard_int, binOp, Op.shift, n0, n1]
  ·obtain ⟨rfl, h0, h1, r0, r1, hk⟩ := hK
   exact ⟨_, hk, _, RepP_int, fun ox oy => by simp only [Sem.run_bind, eqGuard_int, Result.andThen_ok, binOp, Op.intBits, Sem.run_pure, and_nat h0 h1 r0 r1, ne_eq, not_true_eq_false, if_false]⟩
  ·obtain ⟨rfl, hk⟩ := hK
   exact ⟨_, hk, .bool (i == j), by simp only [RepP]; congr 1, fun ox oy => by simp [eqGuard_int, binOp, Op.intCmp]⟩
  ·obtain ⟨rfl, hk⟩ := hK
   exact ⟨_, hk, .bool (i != j), by simp only [RepP]; congr 1, fun ox oy => by simp [eqGuard_int, binOp, Op.intCmp]⟩
  ·obtain ⟨rfl, hk⟩ := hK
   exact ⟨_, hk, _, RepP_bool, fun ox oy => by simp [eqGuard_int, binOp, Op.intCmp]⟩
  ·obtain ⟨rfl, hk⟩ := hK
   exact ⟨_, hk, _, RepP_bool, fun ox oy => by simp [eqGuard_int, binOp, Op.intCmp]⟩
  ·obtain ⟨rfl, hk⟩ := hK
   exact ⟨_, hk, _, RepP_bool, fun ox oy => by simp [eqGuard_int, binOp, Op.intCmp]⟩
  ·obtain ⟨rfl, hk⟩ := hK
   exact ⟨_, hk, _, RepP_bool, fun ox oy => by simp [eqGuard_int, binOp, Op.intCmp]⟩
  ·exact hK.elim
 ·rename_i s t'
  have hx := rep_str hx
  have hy := rep_str hy
  subst hx hy
  have eqv : (ByteArray.toList ⟨s.toArray⟩ == ByteArray.toList ⟨t'.toArray⟩) = decide (s = t') := by
   have e : ∀ l : List UInt8, ByteArray.toList ⟨l.toArray⟩ = l := fun l => ByteArray.toList_eq ⟨l.toArray⟩
   rw [e, e, Bool.eq_iff_iff]; simp
  have e : ∀ l : List UInt8, ByteArray.toList ⟨l.toArray⟩ = l := fun l => ByteArray.toList_eq ⟨l.toArray⟩
  split at hK
  ·obtain ⟨hl, hk⟩ := hK
   refine ⟨_, hk, .string (⟨s.toArray⟩ ++ ⟨t'.toArray⟩), ?_, fun ox oy => ?_⟩
   ·simp only [RepP]
    exact congrArg Value.string (by apply ByteArray.ext; first | rfl | simp)
   ·have hsz : ¬ (IntKind.i64.max < (((⟨s.toArray⟩ : ByteArray).size + (⟨t'.toArray⟩ : ByteArray).size : Nat) : Int)) := by
     simp [ByteArray.size, IntKind.max, IntKind.signed, IntKind.bits]; omega
    simp only [Sem.run_bind, eqGuard_str, Result.andThen_ok, binOp, Op.stringOp]
    rw [if_neg (by simpa using hsz)]
    rfl
  ·exact ⟨_, hK, _, RepP_bool, fun ox oy => by simp only [Sem.run_bind, eqGuard_str, Result.andThen_ok, binOp, Op.stringOp, eqv, Sem.run_pure]⟩
  ·exact ⟨_, hK, _, RepP_bool, fun ox oy => by simp only [Sem.run_bind, eqGuard_str, Result.andThen_ok, binOp, Op.stringOp, eqv, Sem.run_pure]⟩
  ·exact ⟨_, hK, _, RepP_bool, fun ox oy => by simp [eqGuard_str, binOp, Op.stringOp, e, bytesLess_eq]⟩
  ·exact hK.elim
 ·rename_i b c
  have hx := rep_bool hx
  have hy := rep_bool hy
  subst hx hy
  have ht : ∀ (hb : boolT P t = true), P.underlying t = some .bool := fun hb => by
   unfold boolT at hb; split at hb
   ·assumption
   ·cases hb
  split at hK
  ·obtain ⟨hb, hk⟩ := hK
   exact ⟨_, hk, .bool (b == c), by simp only [RepP], fun ox oy => by
    simp only [Sem.run_bind, eqGuard_bool, Result.andThen_ok]
    exact run_eql_bool w t b c (ht hb)⟩
  ·obtain ⟨hb, hk⟩ := hK
   exact ⟨_, hk, .bool (!(b == c)), by simp only [RepP], fun ox oy => by
    simp only [Sem.run_bind, eqGuard_bool, Result.andThen_ok]
    exact run_neq_bool w t b c (ht hb)⟩
  ·exact hK.elim
 ·have hy : v = .slice none 0 0 := by
   simp only [RepA, RepP] at hy
   obtain ⟨a, cap, rfl, _, _, ho, _⟩ := hy
   obtain ⟨rfl, rfl, rfl⟩ := ho trivial
   rfl
  subst hy
  split at hK
  ·obtain ⟨hb, hk⟩ := hK
   obtain ⟨a, l, c, rfl, hk⟩ := nil_spec hx hk
   exact ⟨_, hk, _, RepP_bool, fun ox oy => by
    simp only [Sem.run_bind, eqGuard_sl, Result.andThen_ok]
    exact run_nil_eql t a l c hb⟩
  ·obtain ⟨hb, hk⟩ := hK
   obtain ⟨a, l, c, rfl, hk⟩ := nil_spec hx hk
   exact ⟨_, hk, _, RepP_bool, fun ox oy => by
    simp only [Sem.run_bind, eqGuard_sl, Result.andThen_ok]
    exact run_nil_neq t a l c hb⟩
  ·exact hK.elim
 ·exact hK.elim
theorem does_nl {o : Oper} {k : Nat} {K : R → Prop} (h : Rel w0 nA nt M G ι0 A w S ι a) (hd : ∀ d, o.dst = some d → d < nt) {x : Operand} (ho : o.op = .move x ∨ o.op = .assign x)
  (hK : nlW (Gl.opd S x) K) : Does P w0 nA nt M G ι0 A k o w S a K := by
 have hx := h.opd x
 unfold nlW at hK
 split at hK
 ·rename_i e
  rw [e] at hx
  simp only [RepA, RepP] at hx
  obtain ⟨a', cap, ev, _, _, ho', _⟩ := hx
  obtain ⟨rfl, rfl, rfl⟩ := ho' trivial
  refine does_value h hd (v := .p .nl) (val := a.eval x) ?_ (by simp only [RepA, RepP]; rw [ev]; rfl) (by simp [AV.has]) hK
  rcases ho with ho | ho <;> simp [execOp, ho]
 ·exact hK.elim
theorem does_bin {o : Oper} {k : Nat} {K : R → Prop} (h : Rel w0 nA nt M G ι0 A w S ι a) (hd : ∀ d, o.dst = some d → d < nt) {op : BinOp} {t t' : TypeId} {x y : Operand} (ho : o.op = .binOp op t x y t')
  (hK : binW P op t (Gl.opd S x) (Gl.opd S y) fun v => K ⟨.p v, [], []⟩) : Does P w0 nA nt M G ι0 A k o w S a K := by
 obtain ⟨z, hk, val, hv, hr⟩ := run_bin (h.opd x) (h.opd y) hK
 refine does_value h hd (v := .p z) (val := val) ?_ (by simp only [RepA]; exact hv) (by simp [AV.has]) hk
 have hrun := hr x y
 simp only [Sem.run_bind] at hrun
 simp only [execOp, ho, Sem.run_bind, Sem.run_pure]
 cases hX : Sem.run P (eqGuard op t x y (a.eval x) (a.eval y)) w with
 | halt _ _ => rw [hX] at hrun; simp [Result.andThen] at hrun
 | ok u w1 =>
  rw [hX] at hrun
  simp only [Result.andThen] at hrun ⊢
  rw [hrun]
theorem does_un {o : Oper} {k : Nat} {K : R → Prop} (h : Rel w0 nA nt M G ι0 A w S ι a) (hd : ∀ d, o.dst = some d → d < nt) {op : UnOp} {t : TypeId} {x : Operand} (ho : o.op = .unOp op t x)
  (hK : unW op (Gl.opd S x) fun v => K ⟨.p v, [], []⟩) : Does P w0 nA nt M G ι0 A k o w S a K := by
 have hx := h.opd x
 unfold unW at hK
 split at hK
 ·rename_i b e
  rw [e] at hx
  have hx := rep_bool hx
  exact does_value h hd (val := .bool (!b)) (by simp [execOp, ho, hx, Op.unary]) (by simp only [RepA, RepP]) (by simp [AV.has]) hK
 ·rename_i k' i e
  rw [e] at hx
  have hx := rep_int hx
  exact does_value h hd (val := .int k' (0 - i)) (by simp [execOp, ho, hx, Op.unary, Op.intArith]; rw [wrap_in]; simpa using hK.1) (by simp only [RepA, RepP]) (by simp [AV.has]) hK.2
 ·exact hK.elim
end
end Go.Gl
namespace Go.Gl
open Go
variable [Amb]
theorem slT_spec {P : Program} {t : TypeId} {b : Nat} {z : PV} (h : slT P t = some (b, z)) : ∃ e i zv, P.underlying t = some (.slice e) ∧ P.info? e = some i ∧ i.zero = some zv ∧ i.size = 1 ∧ zv.cells.size = 1 ∧ zv.oneCell' = true ∧ i.bytes = b ∧ b ≤ 64 ∧ z = (ofConst1 zv).cell := by
 unfold slT at h
 split at h
 ·rename_i e hu
  split at h
  ·rename_i i hi
   split at h
   ·rename_i zv hz
    split at h
    ·rename_i hc
     simp only [Option.some.injEq, Prod.mk.injEq] at h
     obtain ⟨rfl, rfl⟩ := h
     exact ⟨e, i, zv, hu, hi, hz, hc.1, hc.2.1, hc.2.2.1, rfl, hc.2.2.2, rfl⟩
    ·cases h
   ·cases h
  ·cases h
 ·cases h
theorem slT_some {P : Program} {t : TypeId} (h : (slT P t).isSome = true) : ∃ e i zv, P.underlying t = some (.slice e) ∧ P.info? e = some i ∧ i.zero = some zv ∧ i.size = 1 ∧ zv.cells.size = 1 ∧ zv.oneCell' = true ∧ i.bytes ≤ 64 := by
 cases hs : slT P t with
 | none => rw [hs] at h; cases h
 | some p =>
  obtain ⟨b, z⟩ := p
  obtain ⟨e, i, zv, h1, h2, h3, h4, h5, h6, h7, h8, _⟩ := slT_spec hs
  exact ⟨e, i, zv, h1, h2, h3, h4, h5, h6, by omega⟩
theorem strT_spec {P : Program} {t : TypeId} (h : strT P t = true) : P.underlying t = some .string := by
 unfold strT at h; split at h
 ·assumption
 ·cases h
theorem intT_spec {P : Program} {t : TypeId} {k : IntKind} (h : intT P t = some k) : P.underlying t = some (.int k) := by
 unfold intT at h; split at h
 ·simp only [Option.some.injEq] at h; subst h; assumption
 ·cases h
theorem szT_agg {P : Program} {t : TypeId} {n : Nat} (h : szT P t = some (n, true)) : ∃ i, P.info? t = some i ∧ i.size = n ∧ ((∃ fs, P.underlying t = some (.struct fs)) ∨ ∃ m e, P.underlying t = some (.array m e)) := by
 unfold szT at h; split at h <;> simp at h
 ·rename_i fs i h1 h2; exact ⟨i, h2, h, .inl ⟨fs, h1⟩⟩
 ·rename_i m e i h1 h2; exact ⟨i, h2, h, .inr ⟨m, e, h1⟩⟩
theorem szT_one {P : Program} {t : TypeId} {n : Nat} (h : szT P t = some (n, false)) : ∃ i d, P.info? t = some i ∧ i.size = n ∧ P.underlying t = some d ∧ (∀ fs, d ≠ .struct fs) ∧ (∀ m e, d ≠ .array m e) := by
 unfold szT at h; split at h <;> simp at h
 rename_i d i h1 h2 h3 h4
 exact ⟨i, d, h4, h, h3, fun fs e => h1 fs e, fun m e e' => h2 m e e'⟩
theorem pairT_some {P : Program} {t : TypeId} (h : pairT P t = true) : ∃ e i zv, P.underlying t = some (.slice e) ∧ P.info? e = some i ∧ i.zero = some zv ∧ i.size = 2 := by
 unfold pairT at h
 split at h
 ·rename_i e he
  split at h
  ·rename_i i hi
   simp only [Bool.and_eq_true, decide_eq_true_eq, Option.isSome_iff_exists] at h
   obtain ⟨⟨z, hz⟩, hs⟩ := h
   exact ⟨e, i, z, he, hi, hz, hs⟩
  ·cases h
 ·cases h
theorem pairT_slT {P : Program} {t : TypeId} (h : (slT P t).isSome = true) : ¬ pairT P t = true := by
 intro hp
 obtain ⟨e, i, zv, h1, h2, h3, h4, _⟩ := slT_some h
 obtain ⟨e', i', zv', g1, g2, g3, g4⟩ := pairT_some hp
 rw [h1] at g1; cases g1
 rw [h2] at g2; cases g2
 omega
theorem add_at (B o j : Nat) : (⟨B, o, none⟩ : Addr).add j = ⟨B, o + j, none⟩ := by
 unfold Addr.add; split <;> simp_all
section
variable {P : Program} {sg : FuncId → List Bool} {w0 : World} {nA nt : Nat} {M G : Nat → Prop} {ι0 : Nat → Loc} {A : Nat → Prop} {w : World} {S : St} {ι : Nat → Loc} {a : Act}
theorem run_isAgg_one {t : TypeId} {d : TypeDesc} (h : P.underlying t = some d) (h1 : ∀ fs, d ≠ .struct fs) (h2 : ∀ m e, d ≠ .array m e) (w : World) : (isAgg t).run P w = .ok false w := by
 unfold isAgg
 simp only [Sem.run_bind, run_underlying h, Result.andThen_ok]
 cases d <;> first | rfl | (rename_i fs; exact absurd rfl (h1 fs)) | (rename_i m e; exact absurd rfl (h2 m e))
theorem run_isAgg_agg {t : TypeId} (h : (∃ fs, P.underlying t = some (.struct fs)) ∨ ∃ m e, P.underlying t = some (.array m e)) (w : World) : (isAgg t).run P w = .ok true w := by
 unfold isAgg
 rcases h with ⟨fs, h⟩ | ⟨m, e, h⟩ <;> simp [run_underlying h]
/-- A new block without cells: a slice of no length and no room. -/
theorem does_nil {o : Oper} {k : Nat} {K : R → Prop} (h : Rel w0 nA nt M G ι0 A w S ι a) (hd : ∀ d, o.dst = some d → d < nt) (hA : ∀ x, x < 256 → ¬ A (k + x)) {ad : Option Addr} {rd : List Nat}
  (hr : (execOp a.eval o).run P w = .ok (.value (.slice ad 0 0)) w) (hK : K ⟨.ref k 0 0, [(k, .live false [])], rd⟩) : Does P w0 nA nt M G ι0 A k o w S a K := by
 intro Kc Qc next
 have hk : ¬ A k := hA 0 (by omega)
 obtain ⟨ok, hh⟩ := h.heap.nil (h.alloc k hk) false ⟨0, 0, 0, 0, noInn⟩ rfl
 have st : Stays w w (Held S.h ι) (Held (updH S.h k (.live false [])) (updL ι k ⟨0, 0, 0, 0, noInn⟩)) := fun B o v hF hv => ⟨hv, fun h' => hF (hh B h')⟩
 have h1 := h.step (A' := plus A k) (fun i hi => .inl hi) (Keep.refl w M) ok st (fun i hi => by
  have : i ≠ k := fun e => hk (e ▸ hi)
  simp [updL, this, LocEq.refl]) (fun i hi => by
  have hne : i ≠ k := fun e => hi (.inr ⟨by omega, by omega⟩)
  simp only [updH, hne, if_false]
  exact h.alloc i fun hA => hi (.inl hA))
 refine wp_value hr (next _ _ _ (updL ι k ⟨0, 0, 0, 0, noInn⟩) hK ?_)
 rw [app_eq]
 refine h1.put o.dst hd ?_ ?_
 ·simp only [RepA]
  exact ⟨ad, 0, rfl, by simp, by simp [updL], by simp [updL], .inl rfl⟩
 ·intro i hi
  simp [AV.has] at hi
  exact .inr ⟨by omega, by omega⟩
theorem bnd_spec (h : Rel w0 nA nt M G ι0 A w S ι a) {x : Option Operand} {d : Nat} {K : Int → Prop} (hb : bnd (Gl.opd S) x d K) : (x = none ∧ K d) ∨ ∃ o k i, x = some o ∧ a.eval o = .int k i ∧ K i := by
 unfold bnd at hb
 split at hb
 ·exact .inl ⟨rfl, hb⟩
 ·rename_i o
  split at hb
  ·rename_i k i e
   have := h.opd o
   rw [e] at this
   exact .inr ⟨o, k, i, rfl, rep_int this, hb⟩
  ·exact hb.elim
theorem take_drop_cells {F : Nat → Prop} {B o : Nat} {xs : List PV} (h : RepC w F G B o xs) (l n : Nat) : RepC w F G B (o + l) ((xs.take n).drop l) := RepC_drop (RepC_take h n) l
/-- A slice expression on a slice: both bounds known. -/
theorem run_slice2 {t e : TypeId} {i : TypeInfo} (hu : P.underlying t = some (.slice e)) (hi : P.info? e = some i) (hs : i.size = 1) {ad : Option Addr} {len cap : Nat} {lo hi' : Option Value} {l h : Int}
  (hl : (lo = none ∧ l = 0) ∨ ∃ k, lo = some (.int k l)) (hh : (hi' = none ∧ h = len) ∨ ∃ k, hi' = some (.int k h)) (h0 : 0 ≤ l) (h1 : l ≤ h) (h2 : h ≤ cap) (w : World) :
  (Instr.sliceAt t (.slice ad len cap) lo hi' none).run P w = .ok (.slice (if cap = l.toNat then ad else ad.map (·.add l.toNat)) (h.toNat - l.toNat) (cap - l.toNat)) w := by
 have e1 : (0 ≤ h ∧ h ≤ (cap : Int)) := ⟨by omega, h2⟩
 have e2 : (0 ≤ l ∧ l ≤ (h.toNat : Int)) := ⟨h0, by omega⟩
 rcases hl with ⟨rfl, rfl⟩ | ⟨k, rfl⟩ <;> rcases hh with ⟨rfl, rfl⟩ | ⟨k', rfl⟩ <;>
  simp [Instr.sliceAt, Instr.slice, run_underlying hu, Instr.sliceBounds, Instr.sliceBound, asIntOf, sizeOf, typeInfo, hi, hs, e1, h0] <;> (try simp [e2, h1]) <;> (try (rw [if_pos (by omega)]; simp)) <;> (try (intro hlt; omega))
theorem run_slice2_str {t : TypeId} (hu : P.underlying t = some .string) {s : ByteArray} {lo hi' : Option Value} {l h : Int}
  (hl : (lo = none ∧ l = 0) ∨ ∃ k, lo = some (.int k l)) (hh : (hi' = none ∧ h = s.size) ∨ ∃ k, hi' = some (.int k h)) (h0 : 0 ≤ l) (h1 : l ≤ h) (h2 : h ≤ s.size) (w : World) :
  (Instr.sliceAt t (.string s) lo hi' none).run P w = .ok (.string (s.extract l.toNat h.toNat)) w := by
 have e1 : (0 ≤ h ∧ h ≤ (s.size : Int)) := ⟨by omega, h2⟩
 have e2 : (0 ≤ l ∧ l ≤ (h.toNat : Int)) := ⟨h0, by omega⟩
 rcases hl with ⟨rfl, rfl⟩ | ⟨k, rfl⟩ <;> rcases hh with ⟨rfl, rfl⟩ | ⟨k', rfl⟩ <;>
  simp [Instr.sliceAt, Instr.slice, run_underlying hu, Instr.sliceBounds, Instr.sliceBound, asIntOf, e1, h0] <;> (try simp [e2, h1]) <;> (try (rw [if_pos (by omega)]; simp)) <;> (try (intro hlt; omega))
theorem run_slice000 {t e : TypeId} {i : TypeInfo} (hu : P.underlying t = some (.slice e)) (hi : P.info? e = some i) {ad : Option Addr} {len cap : Nat} {lo : Option Value} {kh km : IntKind}
  (hl : lo = none ∨ ∃ k, lo = some (.int k 0)) (w : World) :
  (Instr.sliceAt t (.slice ad len cap) lo (some (.int kh 0)) (some (.int km 0))).run P w = .ok (.slice ad 0 0) w := by
 rcases hl with rfl | ⟨k, rfl⟩ <;> simp [Instr.sliceAt, Instr.slice, run_underlying hu, Instr.sliceBounds, Instr.sliceBound, asIntOf, sizeOf, typeInfo, hi]
end
end Go.Gl
namespace Go.Gl
open Go
variable [Amb]
section
variable {P : Program} {sg : FuncId → List Bool} {w0 : World} {nA nt : Nat} {M G : Nat → Prop} {ι0 : Nat → Loc} {A : Nat → Prop} {w : World} {S : St} {ι : Nat → Loc} {a : Act}
theorem rep_sl {F : Nat → Prop} {o : Fl} {xs : List PV} {v : Value} (h : RepA w F G ι (.p (.sl o xs)) v) : ∃ ad cap, v = .slice ad xs.length cap ∧ xs.length ≤ cap ∧ cap ≤ maxLen ∧ (o = .own → xs = [] ∧ ad = none ∧ cap = 0) ∧
   (xs = [] ∨ ∃ B off, ad = some ⟨B, off, none⟩ ∧ ¬ F B ∧ (o = .fr → G B) ∧ RepC w F G B off xs) := by simpa only [RepA, RepP] using h
theorem rep_ref {F : Nat → Prop} {id off len : Nat} {v : Value} (h : RepA w F G ι (.ref id off len) v) : ∃ ad cap, v = .slice ad len cap ∧ len ≤ cap ∧ off + cap = (ι id).cap ∧ (ι id).cap ≤ maxLen ∧ (cap = 0 ∨ ad = some ⟨(ι id).B, (ι id).off + off, none⟩) := by
 simpa only [RepA] using h
/-- The two bounds of a slice expression, as the machine has them. -/
theorem rep_inn {F : Nat → Prop} {id r off len : Nat} {v : Value} (h : RepA w F G ι (.inn id r off len) v) : r < (ι id).n ∧ ∃ ad cap, v = .slice ad len cap ∧ len ≤ cap ∧ off + cap = ((ι id).sub r).cap ∧ ((ι id).sub r).cap ≤ maxLen ∧ (cap = 0 ∨ ad = some ⟨((ι id).sub r).B, ((ι id).sub r).off + off, none⟩) := by
 simpa only [RepA] using h
theorem bnds (h : Rel w0 nA nt M G ι0 A w S ι a) {lo hi : Option Operand} {d : Nat} {K : Int → Int → Prop} (hb : bnd (Gl.opd S) hi d fun x => bnd (Gl.opd S) lo 0 fun l => K x l) :
  ∃ x l, K x l ∧ ((lo.map a.eval = none ∧ l = 0) ∨ ∃ k, lo.map a.eval = some (.int k l)) ∧ ((hi.map a.eval = none ∧ x = d) ∨ ∃ k, hi.map a.eval = some (.int k x)) := by
 rcases bnd_spec h hb with ⟨rfl, hb1⟩ | ⟨o, k, i, rfl, e, hb1⟩
 ·rcases bnd_spec h hb1 with ⟨rfl, hb2⟩ | ⟨o', k', i', rfl, e', hb2⟩
  ·exact ⟨_, _, hb2, .inl ⟨rfl, rfl⟩, .inl ⟨rfl, rfl⟩⟩
  ·exact ⟨_, _, hb2, .inr ⟨k', by simp [e']⟩, .inl ⟨rfl, rfl⟩⟩
 ·rcases bnd_spec h hb1 with ⟨rfl, hb2⟩ | ⟨o', k', i', rfl, e', hb2⟩
  ·exact ⟨_, _, hb2, .inl ⟨rfl, rfl⟩, .inr ⟨k, by simp [e]⟩⟩
  ·exact ⟨_, _, hb2, .inr ⟨k', by simp [e']⟩, .inr ⟨k, by simp [e]⟩⟩
theorem does_slice {o : Oper} {k : Nat} {K : R → Prop} (h : Rel w0 nA nt M G ι0 A w S ι a) (hd : ∀ d, o.dst = some d → d < nt) (hA : ∀ x, x < 256 → ¬ A (k + x)) {t : TypeId} {x : Operand} {lo hi mx : Option Operand}
  (ho : o.op = .slice t x lo hi mx) (hK : sliceW P t (Gl.opd S x) lo hi mx k (Gl.opd S) K) : Does P w0 nA nt M G ι0 A k o w S a K := by
 have hx := h.opd x
 have nx := h.opd_named x
 unfold sliceW at hK
 split at hK
 ·rename_i s e
  rw [e] at hx
  have hx := rep_str hx
  obtain ⟨rfl, ht, hb⟩ := hK
  obtain ⟨hh, l, ⟨h0, h1, h2, hk⟩, hl, hhi⟩ := bnds h hb
  have hsz : (⟨s.toArray⟩ : ByteArray).size = s.length := by simp [ByteArray.size]
  refine does_value h hd (val := .string ((⟨s.toArray⟩ : ByteArray).extract l.toNat hh.toNat)) ?_ ?_ (by simp [AV.has]) hk
  ·simp only [execOp, ho, hx, Sem.run_bind, Option.map_none]
   rw [run_slice2_str (strT_spec ht) hl (by rw [hsz]; exact hhi) h0 h1 (by rw [hsz]; exact h2)]
   rfl
  ·simp only [RepA, RepP]
   refine congrArg Value.string (ByteArray.ext ?_)
   apply Array.ext'
   simp only [ByteArray.data_extract, List.extract_toArray, List.extract_eq_take_drop]
   rw [List.drop_take]
 ·rename_i fl xs e
  rw [e] at hx
  obtain ⟨ad, cap, hv, hl, hm, hown, hc⟩ := rep_sl hx
  obtain ⟨ht, hb⟩ := hK
  obtain ⟨el, i, zv, hu, hi', _, hsz, _⟩ := slT_some ht
  split at hb
  ·obtain ⟨hh, l, ⟨h0, h1, h2, hk⟩, hlo, hhi⟩ := bnds h hb
   refine does_value h hd (val := .slice (if cap = l.toNat then ad else ad.map (·.add l.toNat)) (hh.toNat - l.toNat) (cap - l.toNat)) ?_ ?_ (by simp [AV.has]) hk
   ·simp only [execOp, ho, hv, Sem.run_bind, Option.map_none]
    rw [run_slice2 hu hi' hsz hlo hhi h0 h1 (by omega)]
    rfl
   ·have hlen : ((xs.take hh.toNat).drop l.toNat).length = hh.toNat - l.toNat := by simp; omega
    simp only [RepA, RepP]
    refine ⟨_, _, by rw [hlen], by rw [hlen]; omega, by omega, ?_, ?_⟩
    ·intro e'
     obtain ⟨rfl, rfl, rfl⟩ := hown e'
     simp at h2
     have : hh.toNat = 0 := by omega
     simp
    ·by_cases hz : hh.toNat - l.toNat = 0
     ·left; exact List.eq_nil_of_length_eq_zero (by omega)
     ·right
      rcases hc with rfl | ⟨B, off, rfl, hF, hG, hc⟩
      ·simp at h2; omega
      ·refine ⟨B, off + l.toNat, ?_, hF, hG, take_drop_cells hc _ _⟩
       rw [if_neg (by omega)]
       simp [add_at]
  ·rename_i ox
   obtain ⟨hn, hb⟩ := hb
   rcases bnd_spec h hb with ⟨e1, _⟩ | ⟨_, km, im, e1, em, hb⟩
   ·cases e1
   ·cases e1
    rcases bnd_spec h hb with ⟨rfl, _⟩ | ⟨oh, kh, ih, rfl, eh, hb⟩
    ·exact absurd rfl hn
    ·rcases bnd_spec h hb with ⟨rfl, hb⟩ | ⟨ol, kl, il, rfl, el', hb⟩
     ·obtain ⟨_, rfl, rfl, hk⟩ := hb
      refine does_nil h hd hA (ad := ad) ?_ hk
      simp only [execOp, ho, hv, Sem.run_bind, Option.map_some, Option.map_none, eh, em]
      rw [run_slice000 hu hi' (.inl rfl)]; rfl
     ·obtain ⟨rfl, rfl, rfl, hk⟩ := hb
      refine does_nil h hd hA (ad := ad) ?_ hk
      simp only [execOp, ho, hv, Sem.run_bind, Option.map_some, eh, em, el']
      rw [run_slice000 hu hi' (.inr ⟨kl, rfl⟩)]; rfl
 ·rename_i id off len e
  rw [e] at hx nx
  obtain ⟨ad, cap, hv, hl, hcap, hm, hc⟩ := rep_ref hx
  obtain ⟨ht, hb⟩ := hK
  obtain ⟨el, i, zv, hu, hi', _, hsz, _⟩ := slT_some ht
  split at hb
  ·obtain ⟨hh, l, ⟨h0, h1, h2, hk⟩, hlo, hhi⟩ := bnds h hb
   refine does_value h hd (val := .slice (if cap = l.toNat then ad else ad.map (·.add l.toNat)) (hh.toNat - l.toNat) (cap - l.toNat)) ?_ ?_ ?_ hk
   ·simp only [execOp, ho, hv, Sem.run_bind, Option.map_none]
    rw [run_slice2 hu hi' hsz hlo hhi h0 h1 (by omega)]
    rfl
   ·simp only [RepA]
    refine ⟨_, _, rfl, by omega, by omega, hm, ?_⟩
    by_cases hz : cap = l.toNat
    ·left; omega
    ·right
     rcases hc with hc | rfl
     ·omega
     ·rw [if_neg hz]; simp [add_at, Nat.add_assoc]
   ·intro j hj; exact nx j (by simpa [AV.has] using hj)
  ·rename_i ox
   obtain ⟨hn, hb⟩ := hb
   rcases bnd_spec h hb with ⟨e1, _⟩ | ⟨_, km, im, e1, em, hb⟩
   ·cases e1
   ·cases e1
    rcases bnd_spec h hb with ⟨rfl, _⟩ | ⟨oh, kh, ih, rfl, eh, hb⟩
    ·exact absurd rfl hn
    ·rcases bnd_spec h hb with ⟨rfl, hb⟩ | ⟨ol, kl, il, rfl, el', hb⟩
     ·obtain ⟨_, rfl, rfl, hk⟩ := hb
      refine does_nil h hd hA (ad := ad) ?_ hk
      simp only [execOp, ho, hv, Sem.run_bind, Option.map_some, Option.map_none, eh, em]
      rw [run_slice000 hu hi' (.inl rfl)]; rfl
     ·obtain ⟨rfl, rfl, rfl, hk⟩ := hb
      refine does_nil h hd hA (ad := ad) ?_ hk
      simp only [execOp, ho, hv, Sem.run_bind, Option.map_some, eh, em, el']
      rw [run_slice000 hu hi' (.inr ⟨kl, rfl⟩)]; rfl
 ·rename_i id r off len e
  rw [e] at hx nx
  obtain ⟨hr, ad, cap, hv, hl, hcap, hm, hc⟩ := rep_inn hx
  obtain ⟨ht, hb⟩ := hK
  obtain ⟨el, i, zv, hu, hi', _, hsz, _⟩ := slT_some ht
  split at hb
  ·obtain ⟨hh, l, ⟨h0, h1, h2, hk⟩, hlo, hhi⟩ := bnds h hb
   refine does_value h hd (val := .slice (if cap = l.toNat then ad else ad.map (·.add l.toNat)) (hh.toNat - l.toNat) (cap - l.toNat)) ?_ ?_ ?_ hk
   ·simp only [execOp, ho, hv, Sem.run_bind, Option.map_none]
    rw [run_slice2 hu hi' hsz hlo hhi h0 h1 (by omega)]
    rfl
   ·simp only [RepA]
    refine ⟨hr, _, _, rfl, by omega, by omega, hm, ?_⟩
    by_cases hz : cap = l.toNat
    ·left; omega
    ·right
     rcases hc with hc | rfl
     ·omega
     ·rw [if_neg hz]; simp [add_at, Nat.add_assoc]
   ·intro j hj; exact nx j (by simpa [AV.has] using hj)
  ·rename_i ox
   obtain ⟨hn, hb⟩ := hb
   rcases bnd_spec h hb with ⟨e1, _⟩ | ⟨_, km, im, e1, em, hb⟩
   ·cases e1
   ·cases e1
    rcases bnd_spec h hb with ⟨rfl, _⟩ | ⟨oh, kh, ih, rfl, eh, hb⟩
    ·exact absurd rfl hn
    ·rcases bnd_spec h hb with ⟨rfl, hb⟩ | ⟨ol, kl, il, rfl, el', hb⟩
     ·obtain ⟨_, rfl, rfl, hk⟩ := hb
      refine does_nil h hd hA (ad := ad) ?_ hk
      simp only [execOp, ho, hv, Sem.run_bind, Option.map_some, Option.map_none, eh, em]
      rw [run_slice000 hu hi' (.inl rfl)]; rfl
     ·obtain ⟨rfl, rfl, rfl, hk⟩ := hb
      refine does_nil h hd hA (ad := ad) ?_ hk
      simp only [execOp, ho, hv, Sem.run_bind, Option.map_some, eh, em, el']
      rw [run_slice000 hu hi' (.inr ⟨kl, rfl⟩)]; rfl
 ·exact hK.elim
theorem gt_spec {α : Type} {xs : List α} {i : Int} {K : α → Prop} (h : gt xs i K) : 0 ≤ i ∧ ∃ x, xs[i.toNat]? = some x ∧ i.toNat < xs.length ∧ K x := by
 obtain ⟨h0, h⟩ := h
 split at h
 ·rename_i x hx
  exact ⟨h0, x, hx, (List.getElem?_eq_some_iff.1 hx).1, h⟩
 ·exact h.elim
theorem arrT_spec {t : TypeId} {n : Nat} (h : arrT P t = some n) : ∃ e i, P.underlying t = some (.array n e) ∧ P.info? e = some i ∧ i.size = 1 ∧ 2 ≤ n := by
 unfold arrT at h
 split at h
 ·rename_i m e hu
  split at h
  ·rename_i i hi
   split at h
   ·rename_i hc
    simp only [Option.some.injEq] at h
    subst h
    exact ⟨e, i, hu, hi, hc.1, hc.2⟩
   ·cases h
  ·cases h
 ·cases h
theorem does_indexAddr {o : Oper} {k : Nat} {K : R → Prop} (h : Rel w0 nA nt M G ι0 A w S ι a) (hd : ∀ d, o.dst = some d → d < nt) {t : TypeId} {x ix : Operand}
  (ho : o.op = .indexAddr t x ix) (hK : indexAddrW P t (Gl.opd S x) (Gl.opd S ix) fun v => K ⟨v, [], []⟩) : Does P w0 nA nt M G ι0 A k o w S a K := by
 have hx := h.opd x
 have hi := h.opd ix
 have nx := h.opd_named x
 unfold indexAddrW at hK
 split at hK
 ·rename_i ki i ei
  rw [ei] at hi
  have hi := rep_int hi
  split at hK
  ·rename_i fl xs e
   rw [e] at hx
   obtain ⟨ad, cap, hv, hl, hm, _, hc⟩ := rep_sl hx
   obtain ⟨ht, hg⟩ := hK
   obtain ⟨el, inf, zv, hu, hi', _, hsz, _⟩ := slT_some ht
   obtain ⟨h0, y, hy, hlt, hk⟩ := gt_spec hg
   rcases hc with rfl | ⟨B, off, rfl, hF, hG, hc⟩
   ·simp at hlt
   ·refine does_value h hd (val := .pointer (some ⟨B, off + i.toNat, none⟩)) ?_ ?_ (by simp [AV.has]) hk
    ·have hb : 0 ≤ i ∧ i < (xs.length : Int) := ⟨h0, by omega⟩
     simp [execOp, ho, hv, hi, Instr.indexAt, asIntOf, run_underlying hu, sizeOf, typeInfo, hi', hsz, hb, add_at]
    ·simp only [RepA, RepP]
     refine ⟨B, off + i.toNat, rfl, .inr hF, ?_⟩
     rw [RepC_iff] at hc
     simp only [RepC, and_true]
     exact hc _ _ hy
  ·rename_i id off len e
   rw [e] at hx nx
   obtain ⟨ad, cap, hv, hl, hcap, hm, hc⟩ := rep_ref hx
   obtain ⟨ht, h0, h1, hk⟩ := hK
   obtain ⟨el, inf, zv, hu, hi', _, hsz, _⟩ := slT_some ht
   rcases hc with hc | rfl
   ·omega
   ·refine does_value h hd (val := .pointer (some ⟨(ι id).B, (ι id).off + (off + i.toNat), none⟩)) ?_ ?_ ?_ hk
    ·have hb : 0 ≤ i ∧ i < (len : Int) := ⟨h0, h1⟩
     simp [execOp, ho, hv, hi, Instr.indexAt, asIntOf, run_underlying hu, sizeOf, typeInfo, hi', hsz, hb, add_at, Nat.add_assoc]
    ·simp only [RepA]
    ·intro j hj; exact nx j (by simpa [AV.has] using hj)
  ·rename_i id r off len e
   rw [e] at hx nx
   obtain ⟨hr, ad, cap, hv, hl, hcap, hm, hc⟩ := rep_inn hx
   obtain ⟨ht, h0, h1, hk⟩ := hK
   obtain ⟨el, inf, zv, hu, hi', _, hsz, _⟩ := slT_some ht
   rcases hc with hc | rfl
   ·omega
   ·refine does_value h hd (val := .pointer (some ⟨((ι id).sub r).B, ((ι id).sub r).off + (off + i.toNat), none⟩)) ?_ ?_ ?_ hk
    ·have hb : 0 ≤ i ∧ i < (len : Int) := ⟨h0, h1⟩
     simp [execOp, ho, hv, hi, Instr.indexAt, asIntOf, run_underlying hu, sizeOf, typeInfo, hi', hsz, hb, add_at, Nat.add_assoc]
    ·simp only [RepA]; exact ⟨hr, trivial⟩
    ·intro j hj; exact nx j (by simpa [AV.has] using hj)
  ·rename_i id off e
   rw [e] at hx nx
   simp only [RepA] at hx
   split at hK
   ·rename_i n hn
    obtain ⟨h0, h1, hk⟩ := hK
    obtain ⟨el, inf, hu, hi', hsz, h2⟩ := arrT_spec hn
    refine does_value h hd (val := .pointer (some ⟨(ι id).B, (ι id).off + (off + i.toNat), none⟩)) ?_ ?_ ?_ hk
    ·have hb : 0 ≤ i ∧ i < (n : Int) := ⟨h0, h1⟩
     simp [execOp, ho, hx, hi, Instr.indexAt, Instr.sureAddr, asIntOf, run_underlying hu, sizeOf, typeInfo, hi', hsz, hb, add_at, Nat.add_assoc]
    ·simp only [RepA]
    ·intro j hj; exact nx j (by simpa [AV.has] using hj)
   ·exact hK.elim
  ·rename_i id len e
   rw [e] at hx nx
   simp only [RepA] at hx
   obtain ⟨ht, h0, h1, hk⟩ := hK
   obtain ⟨el, inf, zv, hu, hi', _, hsz⟩ := pairT_some ht
   refine does_value h hd (val := .pointer (some ⟨(ι id).B, (ι id).off + i.toNat * 2, none⟩)) ?_ ?_ ?_ hk
   ·have hb : 0 ≤ i ∧ i < (len : Int) := ⟨h0, h1⟩
    simp [execOp, ho, hx, hi, Instr.indexAt, asIntOf, run_underlying hu, sizeOf, typeInfo, hi', hsz, hb, add_at]
   ·simp only [RepA]
   ·intro j hj; exact nx j (by simpa [AV.has] using hj)
  ·exact hK.elim
 ·exact hK.elim
theorem does_index {o : Oper} {k : Nat} {K : R → Prop} (h : Rel w0 nA nt M G ι0 A w S ι a) (hd : ∀ d, o.dst = some d → d < nt) {t : TypeId} {x ix : Operand}
  (ho : o.op = .index t x ix) (hK : indexW P t (Gl.opd S x) (Gl.opd S ix) fun v => K ⟨v, [], []⟩) : Does P w0 nA nt M G ι0 A k o w S a K := by
 have hx := h.opd x
 have hi := h.opd ix
 unfold indexW at hK
 split at hK
 ·rename_i ki i ei
  rw [ei] at hi
  have hi := rep_int hi
  split at hK
  ·rename_i s e
   rw [e] at hx
   have hx := rep_str hx
   obtain ⟨ht, hg⟩ := hK
   obtain ⟨h0, b, hb, hlt, hk⟩ := gt_spec hg
   refine does_value h hd (val := .int .u8 b.toNat) ?_ (by simp only [RepA, RepP]) (by simp [AV.has]) hk
   have e2 : (⟨s.toArray⟩ : ByteArray)[i.toNat]? = some b := by
    have hl2 : i.toNat < (⟨s.toArray⟩ : ByteArray).size := by simpa [ByteArray.size] using hlt
    have e3 : (⟨s.toArray⟩ : ByteArray)[i.toNat]? = some ((⟨s.toArray⟩ : ByteArray)[i.toNat]'hl2) := getElem?_pos (⟨s.toArray⟩ : ByteArray) i.toNat hl2
    rw [e3]
    have e4 : s[i.toNat]'hlt = b := by rw [List.getElem?_eq_getElem hlt] at hb; exact Option.some.inj hb
    exact congrArg some e4
   simp [execOp, ho, hx, hi, Instr.index, asIntOf, run_underlying (strT_spec ht), h0, e2]
  ·exact hK.elim
 ·exact hK.elim
end
end Go.Gl
namespace Go.Gl
open Go
variable [Amb]
section
variable {P : Program} {sg : FuncId → List Bool} {w0 : World} {nA nt : Nat} {M G : Nat → Prop} {ι0 : Nat → Loc} {A : Nat → Prop} {w : World} {S : St} {ι : Nat → Loc} {a : Act}
/-- The cells of a row, as a list of values. -/
theorem RepC_list {F : Nat → Prop} {B : Nat} : ∀ {xs : List PV} {o : Nat}, RepC w F G B o xs → ∃ cs : List Value, RepL w F G xs cs ∧ cs.length = xs.length ∧ (∀ (j : Nat) (v : Value), cs[j]? = some v → w.cell? ⟨B, o + j, none⟩ = some v) ∧ ∀ v ∈ cs, v.oneCell' = true
 | [], o, _ => ⟨[], by simp [RepL], rfl, fun j v h => by simp at h, fun v h => by simp at h⟩
 | x :: xs, o, h => by
  simp only [RepC] at h
  obtain ⟨⟨v, hv, h1, hx⟩, hr⟩ := h
  obtain ⟨cs, hl, hlen, hc, ho⟩ := RepC_list hr
  refine ⟨v :: cs, by simp only [RepL]; exact ⟨v, cs, rfl, hx, hl⟩, by simp [hlen], fun j u hj => ?_, fun u hu => ?_⟩
  ·cases j with
   | zero => simp only [List.getElem?_cons_zero, Option.some.injEq] at hj; subst hj; simpa using hv
   | succ j => simp only [List.getElem?_cons_succ] at hj; have := hc j u hj; rwa [show o + 1 + j = o + (j + 1) from by omega] at this
  ·rcases List.mem_cons.1 hu with rfl | hu
   ·exact h1
   ·exact ho u hu
/-- What a block of the call's own holds: its cells. -/
theorem HeapOk.cells {z : Nat} {h : Nat → Blk} (ok : HeapOk w z M G h ι) {id : Nat} {c : List PV} (hb : (∃ m, h id = .live m c) ∨ ∃ m, h id = .froz m c) (hc : c ≠ []) :
  RepC w (Held h ι) G (ι id).B (ι id).off c := by
 rcases hb with ⟨m, hb⟩ | ⟨m, hb⟩
 ·obtain ⟨h1, _, h3⟩ := ok.live id m c hb
  rcases h3 with h3 | ⟨_, h3, _⟩
  ·exact absurd (List.eq_nil_of_length_eq_zero (by omega)) hc
  ·exact h3
 ·obtain ⟨h1, _, h3⟩ := ok.froz id m c hb
  rcases h3 with h3 | ⟨_, _, h3⟩
  ·exact absurd h3 hc
  ·exact h3
/-- What is told of a block whose rows are the call's own. -/
theorem HeapOk.deep {z : Nat} {h : Nat → Blk} (ok : HeapOk w z M G h ι) {id : Nat} {m : Bool} {cs : List DC} {rs : List (Option (List PV))} (hb : h id = .deep m cs rs) : okB w (Held h ι) G (Org z M G) (.deep m cs rs) (ι id) := by
 have := ok.ok id; rwa [hb] at this
theorem HeapOk.deepRow {z : Nat} {h : Nat → Blk} (ok : HeapOk w z M G h ι) {id : Nat} {m : Bool} {cs : List DC} {rs : List (Option (List PV))} (hb : h id = .deep m cs rs) {r : Nat} {c : List PV} (hr : rs[r]? = some (some c)) :
  r < (ι id).n ∧ rowOk w (Held h ι) G (Org z M G m) ((ι id).sub r) c := by
 obtain ⟨h1, _, h3, _⟩ := ok.deep hb
 exact ⟨by rw [← h1]; exact (List.getElem?_eq_some_iff.1 hr).1, h3 r c hr⟩
theorem rowOk.cells {F O : Nat → Prop} {l : Loc} {c : List PV} (h : rowOk w F G O l c) (hc : c ≠ []) : RepC w F G l.B l.off c ∧ l.cap ≠ 0 := by
 obtain ⟨h1, _, h3⟩ := h
 have hp := List.length_pos_iff.2 hc
 rcases h3 with h3 | ⟨_, h3, _⟩
 ·omega
 ·exact ⟨h3, by omega⟩
theorem HeapOk.deepCell {z : Nat} {h : Nat → Blk} (ok : HeapOk w z M G h ι) {id : Nat} {m : Bool} {cs : List DC} {rs : List (Option (List PV))} (hb : h id = .deep m cs rs) {j : Nat} {x : DC} (hj : cs[j]? = some x) :
  ∃ v, w.cell? ⟨(ι id).B, (ι id).off + j, none⟩ = some v ∧ v.oneCell' = true ∧ RepA w (Held h ι) G ι (x.av id rs) v := by
 obtain ⟨hn, ⟨h1, h2, h3⟩, h4, _⟩ := ok.deep hb
 have hlt := (List.getElem?_eq_some_iff.1 hj).1
 rcases h3 with h3 | ⟨_, _, h3⟩
 ·omega
 ·obtain ⟨v, hv, hv1, hx⟩ := h3 j x hj
  refine ⟨v, hv, hv1, ?_⟩
  cases x with
  | v x => exact hx
  | row r =>
   simp only [DC.av]
   split
   ·rename_i c hr
    obtain ⟨a, rfl, ha⟩ := hx.2 c hr
    have hrn := (List.getElem?_eq_some_iff.1 hr).1
    obtain ⟨g1, g2, _⟩ := h4 r c hr
    simp only [RepA]
    exact ⟨by omega, a, _, rfl, g1, by omega, g2, ha.imp _root_.id fun e => e⟩
   ·simp only [RepA, RepP]
  | self o => simp only [DC.av, RepA]; exact hx
theorem DC.av_has {id : Nat} {rs : List (Option (List PV))} {x : DC} {i : Nat} (h : (x.av id rs).has i = true) : i = id := by
 cases x with
 | v x => simp [DC.av, AV.has] at h
 | row r =>
  simp only [DC.av] at h
  split at h
  ·simp [AV.has] at h; exact h.symm
  ·simp [AV.has] at h
 | self o => simp [DC.av, AV.has] at h; exact h.symm
theorem DC.avs_has {id : Nat} {rs : List (Option (List PV))} : ∀ {xs : List DC} {i : Nat}, AV.hasL (xs.map (DC.av id rs)) i = true → i = id
 | [], i, h => by simp [AV.hasL] at h
 | x :: xs, i, h => by
  simp only [List.map_cons, AV.hasL, Bool.or_eq_true] at h
  rcases h with h | h
  ·exact DC.av_has h
  ·exact DC.avs_has h
/-- Some cells, as values. -/
theorem HeapOk.deepCells {z : Nat} {h : Nat → Blk} (ok : HeapOk w z M G h ι) {id : Nat} {m : Bool} {cs : List DC} {rs : List (Option (List PV))} (hb : h id = .deep m cs rs) (off n : Nat) (hle : off + n ≤ cs.length) :
  ∃ vs : List Value, RepAL w (Held h ι) G ι (((cs.drop off).take n).map (DC.av id rs)) vs ∧ vs.length = n ∧ ∀ (j : Nat) (v : Value), vs[j]? = some v → w.cell? ⟨(ι id).B, (ι id).off + off + j, none⟩ = some v := by
 induction n generalizing off with
 | zero => exact ⟨[], by simp [RepAL], rfl, fun j v hj => by simp at hj⟩
 | succ n ih =>
  obtain ⟨vs, h1, h2, h3⟩ := ih (off + 1) (by omega)
  have hlt : off < cs.length := by omega
  obtain ⟨v, hv, _, hx⟩ := ok.deepCell hb (List.getElem?_eq_getElem hlt)
  refine ⟨v :: vs, ?_, by simp [h2], fun j u hj => ?_⟩
  ·rw [List.drop_eq_getElem_cons hlt, List.take_succ_cons, List.map_cons]
   simp only [RepAL]
   exact ⟨v, vs, rfl, hx, h1⟩
  ·cases j with
   | zero => simp only [List.getElem?_cons_zero, Option.some.injEq] at hj; subst hj; exact hv
   | succ j =>
    simp only [List.getElem?_cons_succ] at hj
    have := h3 j u hj
    rwa [show (ι id).off + (off + 1) + j = (ι id).off + off + (j + 1) by omega] at this
theorem run_loadAt_one {t : TypeId} {n : Nat} (ht : szT P t = some (n, false)) {B o : Nat} {v : Value} (hv : w.cell? ⟨B, o, none⟩ = some v) : (Instr.loadAt t (.pointer (some ⟨B, o, none⟩))).run P w = .ok v w := by
 obtain ⟨i, d, _, _, hu, h1, h2⟩ := szT_one ht
 simp [Instr.loadAt, Instr.sureAddr, loadVar, run_isAgg_one hu h1 h2, hv]
theorem run_loadAt_agg {t : TypeId} {n : Nat} (ht : szT P t = some (n, true)) {B o : Nat} {cs : List Value} (hl : cs.length = n) (hv : ∀ (j : Nat) (v : Value), cs[j]? = some v → w.cell? ⟨B, o + j, none⟩ = some v) :
  (Instr.loadAt t (.pointer (some ⟨B, o, none⟩))).run P w = .ok (.agg ⟨cs⟩) w := by
 obtain ⟨i, hi, hs, hu⟩ := szT_agg ht
 have := run_loadCells_list (P := P) (w := w) ⟨B, o, none⟩ cs (fun j v hj => by rw [add_at]; exact hv j v hj)
 rw [hl] at this
 simp [Instr.loadAt, Instr.sureAddr, loadVar, run_isAgg_agg hu, sizeOf, typeInfo, hi, hs, this]
theorem does_load {o : Oper} {k : Nat} {K : R → Prop} (h : Rel w0 nA nt M G ι0 A w S ι a) (hd : ∀ d, o.dst = some d → d < nt) {t : TypeId} {x : Operand}
  (ho : o.op = .load t x) (hK : loadW P t S.h (Gl.opd S x) K) : Does P w0 nA nt M G ι0 A k o w S a K := by
 have hx := h.opd x
 unfold loadW at hK
 split at hK
 ·rename_i n ht
  obtain ⟨_, hK⟩ := hK
  split at hK
  ·rename_i y ys e
   rw [e] at hx
   simp only [RepA, RepP] at hx
   obtain ⟨B, off, hv, hF, hc⟩ := hx
   simp only [RepC] at hc
   obtain ⟨⟨v, hcell, _, hy⟩, _⟩ := hc
   refine does_value h hd (v := .p y) (val := v) ?_ (by simp only [RepA]; exact hy) (by simp [AV.has]) hK
   simp [execOp, ho, hv, run_loadAt_one ht hcell]
  ·rename_i id off e
   have nx := h.opd_named x
   rw [e] at hx nx
   simp only [RepA] at hx
   have key : ∀ c, ((∃ m, S.h id = .live m c) ∨ ∃ m, S.h id = .froz m c) → gt c off (fun x => K ⟨.p x, [], [id]⟩) → Does P w0 nA nt M G ι0 A k o w S a K := by
    intro c hb hg
    obtain ⟨_, y, hy, hlt, hk⟩ := gt_spec hg
    simp only [Int.toNat_natCast] at hy hlt
    have hc := h.heap.cells hb (by intro e; subst e; simp at hlt)
    rw [RepC_iff] at hc
    obtain ⟨v, hcell, _, hy'⟩ := hc off y hy
    refine does_value h hd (v := .p y) (val := v) ?_ (by simp only [RepA]; exact hy') (by simp [AV.has]) hk
    simp [execOp, ho, hx, run_loadAt_one ht hcell]
   split at hK
   ·rename_i m c hb; exact key c (.inl ⟨m, hb⟩) hK
   ·rename_i m c hb; exact key c (.inr ⟨m, hb⟩) hK
   ·rename_i m cs rs hb
    obtain ⟨_, y, hy, hlt, hk⟩ := gt_spec hK
    simp only [Int.toNat_natCast] at hy
    obtain ⟨v, hcell, _, hr⟩ := h.heap.deepCell hb hy
    refine does_value h hd (v := y.av id rs) (val := v) ?_ hr (fun i hi => by rw [DC.av_has hi]; exact nx id (by simp [AV.has])) hk
    simp [execOp, ho, hx, run_loadAt_one ht hcell]
   ·exact hK.elim
  ·rename_i id r off e
   rw [e] at hx
   simp only [RepA] at hx
   split at hK
   ·rename_i m cs rs hb
    split at hK
    ·rename_i c hr
     obtain ⟨_, y, hy, hlt, hk⟩ := gt_spec hK
     simp only [Int.toNat_natCast] at hy hlt
     obtain ⟨_, hrow⟩ := h.heap.deepRow hb hr
     obtain ⟨hc, _⟩ := hrow.cells (by intro e; subst e; simp at hlt)
     rw [RepC_iff] at hc
     obtain ⟨v, hcell, _, hy'⟩ := hc off y hy
     refine does_value h hd (v := .p y) (val := v) ?_ (by simp only [RepA]; exact hy') (by simp [AV.has]) hk
     simp [execOp, ho, hx.2, run_loadAt_one ht hcell]
    ·exact hK.elim
   ·exact hK.elim
  ·exact hK.elim
 ·rename_i n ht
  split at hK
  ·rename_i xs e
   rw [e] at hx
   simp only [RepA, RepP] at hx
   obtain ⟨B, off, hv, hF, hc⟩ := hx
   obtain ⟨hle, hk⟩ := hK
   obtain ⟨cs, hl, hlen, hcells, _⟩ := RepC_list (RepC_take hc n)
   refine does_value h hd (v := .p (.agg (xs.take n))) (val := .agg ⟨cs⟩) ?_ (by simp only [RepA, RepP]; exact ⟨cs, rfl, hl⟩) (by simp [AV.has]) hk
   simp [execOp, ho, hv, run_loadAt_agg ht (cs := cs) (by rw [hlen]; simp; omega) hcells]
  ·rename_i id off e
   have nx := h.opd_named x
   rw [e] at hx nx
   simp only [RepA] at hx
   have key : ∀ c, ((∃ m, S.h id = .live m c) ∨ ∃ m, S.h id = .froz m c) → off + n ≤ c.length → K ⟨.p (.agg ((c.drop off).take n)), [], [id]⟩ → Does P w0 nA nt M G ι0 A k o w S a K := by
    intro c hb hle hk
    have hcs : ∃ cs : List Value, RepL w (Held S.h ι) G ((c.drop off).take n) cs ∧ cs.length = ((c.drop off).take n).length ∧ (∀ (j : Nat) (v : Value), cs[j]? = some v → w.cell? ⟨(ι id).B, (ι id).off + off + j, none⟩ = some v) := by
     by_cases hn : c = []
     ·subst hn
      refine ⟨[], by simp [RepL], by simp, fun j v hj => by simp at hj⟩
     ·have hc := h.heap.cells hb hn
      obtain ⟨cs, h1, h2, h3, _⟩ := RepC_list (RepC_take (RepC_drop hc off) n)
      exact ⟨cs, h1, h2, h3⟩
    obtain ⟨cs, hl, hlen, hcells⟩ := hcs
    refine does_value h hd (v := .p (.agg ((c.drop off).take n))) (val := .agg ⟨cs⟩) ?_ (by simp only [RepA, RepP]; exact ⟨cs, rfl, hl⟩) (by simp [AV.has]) hk
    simp [execOp, ho, hx, run_loadAt_agg ht (cs := cs) (by rw [hlen]; simp; omega) hcells]
   split at hK
   ·rename_i m c hb; exact key c (.inl ⟨m, hb⟩) hK.1 hK.2
   ·rename_i m c hb; exact key c (.inr ⟨m, hb⟩) hK.1 hK.2
   ·rename_i m cs rs hb
    obtain ⟨vs, hvs, hlen, hcells⟩ := h.heap.deepCells hb off n hK.1
    refine does_value h hd (v := .agg (((cs.drop off).take n).map (DC.av id rs))) (val := .agg ⟨vs⟩) ?_ (by simp only [RepA]; exact ⟨vs, rfl, hvs⟩) (fun i hi => by simp only [AV.has] at hi; rw [DC.avs_has hi]; exact nx id (by simp [AV.has])) hK.2
    simp [execOp, ho, hx, run_loadAt_agg ht (cs := vs) hlen hcells]
   ·exact hK.elim
  ·exact hK.elim
 ·exact hK.elim
theorem fldT_spec {t : TypeId} {f off n : Nat} {b : Bool} (h : fldT P t f = some (off, n, b)) : ∃ fs x, P.underlying t = some (.struct fs) ∧ fs[f]? = some x ∧ x.offset = off ∧ szT P x.type = some (n, b) := by
 unfold fldT at h
 split at h
 ·rename_i fs hu
  split at h
  ·rename_i x hx
   split at h
   ·rename_i n' b' hs
    simp only [Option.some.injEq, Prod.mk.injEq] at h
    obtain ⟨rfl, rfl, rfl⟩ := h
    exact ⟨fs, x, hu, hx, rfl, hs⟩
   ·cases h
  ·cases h
 ·cases h
theorem does_field {o : Oper} {k : Nat} {K : R → Prop} (h : Rel w0 nA nt M G ι0 A w S ι a) (hd : ∀ d, o.dst = some d → d < nt) (hA : ∀ x, x < 256 → ¬ A (k + x)) {t : TypeId} {x : Operand} {f : Nat}
  (ho : o.op = .field t x f) (hK : fieldW P t f (Gl.opd S x) fun v => arr k v K) : Does P w0 nA nt M G ι0 A k o w S a K := by
 have hx := h.opd x
 have nx := h.opd_named x
 unfold fieldW at hK
 split at hK
 ·rename_i off ht
  obtain ⟨fs, fld, hu, hf, rfl, hsz⟩ := fldT_spec ht
  obtain ⟨i, d, hi, _, hud, h1, h2⟩ := szT_one hsz
  have run : ∀ (cs : List Value) (v : Value), a.eval x = .agg ⟨cs⟩ → cs[fld.offset]? = some v → (execOp a.eval o).run P w = .ok (.value v) w := by
   intro cs v e hv
   simp [execOp, ho, e, Instr.field, run_underlying hu, hf, asAgg, part, run_isAgg_one hud h1 h2, hv]
  split at hK
  ·rename_i xs e
   rw [e] at hx
   simp only [RepA, RepP] at hx
   obtain ⟨cs, hv, hl⟩ := hx
   obtain ⟨_, y, hy, hlt, hk⟩ := gt_spec hK
   simp only [Int.toNat_natCast] at hy
   obtain ⟨v, hcv, hr⟩ := RepL_get hl _ _ hy
   exact does_arr h hd hA (run cs v hv hcv) (by simp only [RepA]; exact hr) (by simp [AV.has]) hk
  ·rename_i xs e
   rw [e] at hx nx
   simp only [RepA] at hx
   obtain ⟨cs, hv, hl⟩ := hx
   unfold AV.nth at hK
   split at hK
   ·rename_i y hy
    obtain ⟨v, hcv, hr⟩ := RepAL_get hl _ _ hy
    refine does_arr h hd hA (run cs v hv hcv) hr (fun j hj => nx j ?_) hK
    simp only [AV.has]
    exact hasL_mem hy hj
   ·exact hK.elim
  ·exact hK.elim
 ·exact hK.elim
 where
 hasL_mem {xs : List AV} {i : Nat} {y : AV} {j : Nat} (hy : xs[i]? = some y) (hj : y.has j = true) : AV.hasL xs j = true := by
  induction xs generalizing i with
  | nil => simp at hy
  | cons x xs ih =>
   simp only [AV.hasL, Bool.or_eq_true]
   cases i with
   | zero => simp only [List.getElem?_cons_zero, Option.some.injEq] at hy; subst hy; exact .inl hj
   | succ i => simp only [List.getElem?_cons_succ] at hy; exact .inr (ih hy)
theorem hasL_mem {xs : List AV} {i : Nat} {y : AV} {j : Nat} (hy : xs[i]? = some y) (hj : y.has j = true) : AV.hasL xs j = true := does_field.hasL_mem hy hj
theorem does_fieldAddr {o : Oper} {k : Nat} {K : R → Prop} (h : Rel w0 nA nt M G ι0 A w S ι a) (hd : ∀ d, o.dst = some d → d < nt) {t : TypeId} {x : Operand} {f : Nat}
  (ho : o.op = .fieldAddr t x f) (hK : fieldAddrW P t f (Gl.opd S x) fun v => K ⟨v, [], []⟩) : Does P w0 nA nt M G ι0 A k o w S a K := by
 have hx := h.opd x
 have nx := h.opd_named x
 unfold fieldAddrW at hK
 split at hK
 ·rename_i off n b ht
  obtain ⟨hn, hK⟩ := hK
  obtain ⟨fs, fld, hu, hf, rfl, hsz⟩ := fldT_spec ht
  have hsize : ∃ i, P.info? fld.type = some i ∧ i.size = n := by
   cases b
   ·obtain ⟨i, d, hi, hs, _⟩ := szT_one hsz; exact ⟨i, hi, hs⟩
   ·obtain ⟨i, hi, hs, _⟩ := szT_agg hsz; exact ⟨i, hi, hs⟩
  obtain ⟨i, hi, hs⟩ := hsize
  have run : ∀ B off, a.eval x = .pointer (some ⟨B, off, none⟩) → (execOp a.eval o).run P w = .ok (.value (.pointer (some ⟨B, off + fld.offset, none⟩))) w := by
   intro B off e
   have hn' : ¬ i.size = 0 := by omega
   simp [execOp, ho, e, Instr.fieldAt, Instr.sureAddr, run_underlying hu, hf, fieldPlace, sizeOf, typeInfo, hi, hn', add_at]
  split at hK
  ·rename_i xs e
   rw [e] at hx
   simp only [RepA, RepP] at hx
   obtain ⟨B, off, hv, hF, hc⟩ := hx
   refine does_value h hd (run B off hv) ?_ (by simp [AV.has]) hK
   simp only [RepA, RepP]
   refine ⟨B, off + fld.offset, rfl, ?_, RepC_drop hc _⟩
   rcases hF with rfl | hF
   ·left; simp
   ·exact .inr hF
  ·rename_i id off e
   rw [e] at hx nx
   simp only [RepA] at hx
   refine does_value h hd (run _ _ hx) ?_ (fun j hj => nx j (by simpa [AV.has] using hj)) hK
   simp only [RepA]
   rw [Nat.add_assoc]
  ·exact hK.elim
 ·exact hK.elim
theorem does_extract {o : Oper} {k : Nat} {K : R → Prop} (h : Rel w0 nA nt M G ι0 A w S ι a) (hd : ∀ d, o.dst = some d → d < nt) (hA : ∀ x, x < 256 → ¬ A (k + x)) {x : Operand} {i : Nat}
  (ho : o.op = .extract x i) (hK : match Gl.opd S x with | .tup xs => AV.nth xs i fun v => arr k v K | _ => False) : Does P w0 nA nt M G ι0 A k o w S a K := by
 have hx := h.opd x
 have nx := h.opd_named x
 split at hK
 ·rename_i xs e
  rw [e] at hx nx
  simp only [RepA] at hx
  obtain ⟨cs, hv, hl⟩ := hx
  unfold AV.nth at hK
  split at hK
  ·rename_i y hy
   obtain ⟨v, hcv, hr⟩ := RepAL_get hl _ _ hy
   refine does_arr h hd hA (val := v) ?_ hr (fun j hj => nx j (by simp only [AV.has]; exact hasL_mem hy hj)) hK
   simp [execOp, ho, hv, Instr.extract, hcv]
  ·exact hK.elim
 ·exact hK.elim
theorem does_nilCheck {o : Oper} {k : Nat} {K : R → Prop} (h : Rel w0 nA nt M G ι0 A w S ι a) (hd : ∀ d, o.dst = some d → d < nt) {x : Operand}
  (ho : o.op = .nilCheck x) (hK : match Gl.opd S x with | .ptr id off => K ⟨.ptr id off, [], []⟩ | .p (.pc xs) => K ⟨.p (.pc xs), [], []⟩ | .p (.fn f a b) => K ⟨.p (.fn f a b), [], []⟩ | .fn f a b => K ⟨.fn f a b, [], []⟩ | _ => False) :
  Does P w0 nA nt M G ι0 A k o w S a K := by
 have hx := h.opd x
 have nx := h.opd_named x
 split at hK
 ·rename_i id off e
  rw [e] at hx nx
  refine does_value h hd (val := a.eval x) ?_ hx nx hK
  simp only [RepA] at hx
  simp [execOp, ho, hx]
 ·rename_i xs e
  rw [e] at hx nx
  refine does_value h hd (val := a.eval x) ?_ hx nx hK
  simp only [RepA, RepP] at hx
  obtain ⟨B, off, hv, _⟩ := hx
  simp [execOp, ho, hv]
 ·rename_i f fa fb e
  rw [e] at hx nx
  refine does_value h hd (val := a.eval x) ?_ hx nx hK
  simp only [RepA, RepP] at hx
  obtain ⟨b, c, hv, _⟩ := hx
  simp [execOp, ho, hv]
 ·rename_i f fa fb e
  rw [e] at hx nx
  refine does_value h hd (val := a.eval x) ?_ hx nx hK
  simp only [RepA] at hx
  obtain ⟨b, c, hv, _⟩ := hx
  simp [execOp, ho, hv]
 ·exact hK.elim
theorem Rel.opds (h : Rel w0 nA nt M G ι0 A w S ι a) (xs : List Operand) : RepAL w (Held S.h ι) G ι (xs.map (Gl.opd S)) (xs.map a.eval) := RepAL_map h.opd xs
theorem Rel.opds_named (h : Rel w0 nA nt M G ι0 A w S ι a) (xs : List Operand) : ∀ i, AV.hasL (xs.map (Gl.opd S)) i = true → A i := by
 intro i hi
 induction xs with
 | nil => simp [AV.hasL] at hi
 | cons x xs ih =>
  simp only [List.map_cons, AV.hasL, Bool.or_eq_true] at hi
  rcases hi with hi | hi
  ·exact h.opd_named x i hi
  ·exact ih hi
theorem does_makeFunc {o : Oper} {k : Nat} {K : R → Prop} (h : Rel w0 nA nt M G ι0 A w S ι a) (hd : ∀ d, o.dst = some d → d < nt) {f : FuncId} {first caps : Array Operand}
  (ho : o.op = .makeFunc (.func f) first caps) (hK : K ⟨.fn f (first.toList.map (Gl.opd S)) (caps.toList.map (Gl.opd S)), [], []⟩) : Does P w0 nA nt M G ι0 A k o w S a K := by
 refine does_value h hd (val := .func (.func f) (first.map a.eval) (caps.map a.eval)) ?_ ?_ ?_ hK
 ·simp [execOp, ho, Instr.makeFunc]
 ·simp only [RepA]
  refine ⟨first.toList.map a.eval, caps.toList.map a.eval, ?_, h.opds _, h.opds _⟩
  congr 1 <;> (apply Array.ext'; simp)
 ·intro i hi
  simp only [AV.has, Bool.or_eq_true] at hi
  rcases hi with hi | hi
  ·exact h.opds_named _ i hi
  ·exact h.opds_named _ i hi
theorem does_len {o : Oper} {k : Nat} {K : R → Prop} (h : Rel w0 nA nt M G ι0 A w S ι a) (hd : ∀ d, o.dst = some d → d < nt) {t : TypeId} {x : Operand}
  (ho : o.op = .call { callee := .builtin .len, args := ⟨[x]⟩, argTypes := ⟨[t]⟩ }) (hK : lenW P t (Gl.opd S x) fun v => K ⟨v, [], []⟩) : Does P w0 nA nt M G ι0 A k o w S a K := by
 have hx := h.opd x
 unfold lenW at hK
 split at hK
 ·rename_i s e
  rw [e] at hx
  have hx := rep_str hx
  refine does_value h hd (val := .int .i64 s.length) ?_ (by simp only [RepA, RepP]) (by simp [AV.has]) hK.2
  have hsz : (⟨s.toArray⟩ : ByteArray).size = s.length := by simp [ByteArray.size]
  simp [execOp, ho, resolve, invoke, builtin, hx, Builtin.len_, run_underlying (strT_spec hK.1), goInt, hsz]
 ·rename_i fl xs e
  rw [e] at hx
  obtain ⟨ad, cap, hv, _⟩ := rep_sl hx
  obtain ⟨el, inf, zv, hu, _⟩ := slT_some hK.1
  refine does_value h hd (val := .int .i64 xs.length) ?_ (by simp only [RepA, RepP]) (by simp [AV.has]) hK.2
  simp [execOp, ho, resolve, invoke, builtin, hv, Builtin.len_, run_underlying hu, goInt]
 ·rename_i id off len e
  rw [e] at hx
  obtain ⟨ad, cap, hv, _⟩ := rep_ref hx
  obtain ⟨el, inf, zv, hu, _⟩ := slT_some hK.1
  refine does_value h hd (val := .int .i64 len) ?_ (by simp only [RepA, RepP]) (by simp [AV.has]) hK.2
  simp [execOp, ho, resolve, invoke, builtin, hv, Builtin.len_, run_underlying hu, goInt]
 ·rename_i id r off len e
  rw [e] at hx
  obtain ⟨_, ad, cap, hv, _⟩ := rep_inn hx
  obtain ⟨el, inf, zv, hu, _⟩ := slT_some hK.1
  refine does_value h hd (val := .int .i64 len) ?_ (by simp only [RepA, RepP]) (by simp [AV.has]) hK.2
  simp [execOp, ho, resolve, invoke, builtin, hv, Builtin.len_, run_underlying hu, goInt]
 ·rename_i id len e
  rw [e] at hx
  simp only [RepA] at hx
  obtain ⟨el, inf, zv, hu, _⟩ := pairT_some hK.1
  refine does_value h hd (val := .int .i64 len) ?_ (by simp only [RepA, RepP]) (by simp [AV.has]) hK.2
  simp [execOp, ho, resolve, invoke, builtin, hx, Builtin.len_, run_underlying hu, goInt]
 ·exact hK.elim
theorem does_cap {o : Oper} {k : Nat} {K : R → Prop} (h : Rel w0 nA nt M G ι0 A w S ι a) (hd : ∀ d, o.dst = some d → d < nt) {t : TypeId} {x : Operand}
  (ho : o.op = .call { callee := .builtin .cap, args := ⟨[x]⟩, argTypes := ⟨[t]⟩ }) (hK : capW P t (Gl.opd S x) fun v => K ⟨v, [], []⟩) : Does P w0 nA nt M G ι0 A k o w S a K := by
 have hx := h.opd x
 unfold capW at hK
 split at hK
 ·rename_i e
  rw [e] at hx
  simp only [RepA, RepP] at hx
  obtain ⟨ad, cap, hv, _, _, hown, _⟩ := hx
  obtain ⟨_, rfl, rfl⟩ := hown (by first | rfl | trivial)
  obtain ⟨el, inf, zv, hu, _⟩ := slT_some hK.1
  refine does_value h hd (val := .int .i64 0) ?_ (by simp only [RepA, RepP]) (by simp [AV.has]) hK.2
  simp [execOp, ho, resolve, invoke, builtin, hv, Builtin.cap_, run_underlying hu, goInt]
 ·exact hK.elim
theorem does_mm {o : Oper} {k : Nat} {K : R → Prop} (h : Rel w0 nA nt M G ι0 A w S ι a) (hd : ∀ d, o.dst = some d → d < nt) {b : Bool} {x y : Operand} {ts : Array TypeId}
  (ho : o.op = .call { callee := .builtin (if b then .max else .min), args := ⟨[x, y]⟩, argTypes := ts }) (hK : mmW b (Gl.opd S x) (Gl.opd S y) fun v => K ⟨v, [], []⟩) : Does P w0 nA nt M G ι0 A k o w S a K := by
 have hx := h.opd x
 have hy := h.opd y
 unfold mmW at hK
 split at hK
 ·rename_i k1 i k2 j e1 e2
  rw [e1] at hx; rw [e2] at hy
  have hx := rep_int hx
  have hy := rep_int hy
  obtain ⟨rfl, hk⟩ := hK
  refine does_value h hd (val := .int k1 (if b then (if i < j then j else i) else (if j < i then j else i))) ?_ (by simp only [RepA, RepP]) (by simp [AV.has]) hk
  cases b
  ·simp only [Bool.false_eq_true, if_false] at ho ⊢
   simp only [execOp, ho, resolve, invoke, builtin, Sem.run_bind, Sem.run_pure, Result.andThen_ok, List.map_toArray, List.map_cons, List.map_nil, hx, hy]
   rw [run_min_int2]; rfl
  ·simp only [if_true] at ho ⊢
   simp only [execOp, ho, resolve, invoke, builtin, Sem.run_bind, Sem.run_pure, Result.andThen_ok, List.map_toArray, List.map_cons, List.map_nil, hx, hy]
   rw [run_max_int2]; rfl
 ·exact hK.elim
end
end Go.Gl
namespace Go.Gl
open Go
variable [Amb]
theorem run_storeCells_gen (P : Program) (g o : Nat) (t : TypeId) (lo hi : Nat) : ∀ (vs : List Value) (i : Nat) (cur : Array Value) (w : World), w.heap[g]? = some (.cells cur t (lo, hi)) → (hi ≤ lo ∨ cur.size ≤ lo) → o + i + vs.length ≤ cur.size → (∀ v ∈ vs, v.oneCell' = true) →
  (storeCells ⟨g, o, none⟩ vs i).run P w = .ok () (w.setRow g (cur.toList.take (o + i) ++ vs ++ cur.toList.drop (o + i + vs.length)).toArray)
 | [], i, cur, w, hg, _, _, _ => by
  simp only [storeCells, List.append_nil, List.length_nil, Nat.add_zero, List.take_append_drop, Array.toArray_toList]
  rw [setRow_self w g cur t (lo, hi) hg]
  rfl
 | v :: rest, i, cur, w, hg, hfr, hl, h1 => by
  have hi' : o + i < cur.size := by simp at hl; omega
  have hcell : w.cell? ⟨g, o + i, none⟩ = some cur[o + i] := by simp [World.cell?, hg, hi']
  have hfro : w.frozen? ⟨g, o + i, none⟩ = false := by simp [World.frozen?, hg]; omega
  have hst : (store ((⟨g, o, none⟩ : Addr).add i) v).run P w = .ok () (w.setRow g (cur.setIfInBounds (o + i) v)) := by
   rw [add_at, run_store P w _ v _ (h1 v (by simp)), hcell]
   simp [hfro, setCell_eq_setRow w g (o + i) cur t (lo, hi) v hg]
  have ih := run_storeCells_gen P g o t lo hi rest (i + 1) (cur.setIfInBounds (o + i) v) (w.setRow g (cur.setIfInBounds (o + i) v)) (setRow_heap w g cur _ t _ hg) (by simpa using hfr) (by simp at hl ⊢; omega) (fun x hx => h1 x (by simp [hx]))
  simp only [storeCells, Sem.run_bind, hst, Result.andThen_ok, ih, setRow_setRow]
  congr 3
  have e := list_seg_step cur.toList (o + i) v rest (by simp at hl ⊢; omega)
  simpa [Array.toList_setIfInBounds, Nat.add_assoc] using e
theorem Wrote.setRow {w : World} {g : Nat} {cur cs' : Array Value} {t : TypeId} {fr : Nat × Nat} (hg : w.heap[g]? = some (.cells cur t fr)) (hs : cs'.size = cur.size) : Wrote w (w.setRow g cs') g cs' :=
 ⟨by simp [World.setRow], ⟨cur, t, fr, hg, setRow_heap w g cur cs' t fr hg, hs⟩, fun k hk => setRow_other w g k cs' hk, rfl, rfl, rfl, rfl⟩
section
variable {P : Program} {sg : FuncId → List Bool} {w0 : World} {nA nt : Nat} {M G : Nat → Prop} {ι0 : Nat → Loc} {A : Nat → Prop} {w w' : World} {S : St} {ι : Nat → Loc} {a : Act}
theorem Wrote.keep {B : Nat} {cs' : Array Value} (hw : Wrote w w' B cs') (hB : w0.heap.size ≤ B ∨ M B) (hk : Keep w0 w M) : Keep w0 w' M :=
 ⟨hw.os.trans hk.os, hw.tape.trans hk.tape, hw.output.trans hk.output, by rw [hw.size]; exact hk.size, fun k h1 h2 => by
  have hne : k ≠ B := by
   rintro rfl
   rcases hB with hB | hB
   ·omega
   ·exact h2 hB
  rw [hw.other k hne]; exact hk.block k h1 h2, fun q => by rw [hw.drawn]; exact hk.drawn q⟩
/-- THE STEP, in general, where a block of the call's own is written. -/
theorem Rel.stepK (h : Rel w0 nA nt M G ι0 A w S ι a) {A' : Nat → Prop} {h' : Nat → Blk} {ι' : Nat → Loc} (hA : ∀ i, A i → A' i) (hk : Keep w0 w' M) (ok : HeapOk w' w0.heap.size M G h' ι')
  (st : Stays w w' (Held S.h ι) (Held h' ι')) (hι : ∀ i, A i → LocEq (ι i) (ι' i)) (hdead : ∀ i, ¬ A' i → h' i = .dead) : Rel w0 nA nt M G ι0 A' w' { S with h := h' } ι' a :=
 ⟨hk, ok, fun t => RepA.tr st (fun _ _ _ h => h) _ _ (fun i hi => hι i (h.named t i hi)) (h.slots t), hdead, fun t i hi => hA i (h.named t i hi),
  fun j hj => (h.loc j hj).trans (hι j (h.args j hj)), fun j hj => hA j (h.args j hj), h.new, h.size, h.defers⟩
theorem hwsH_one (h : Nat → Blk) (k : Nat) (b : Blk) : hwsH h [(k, b)] = updH h k b := rfl
/-- A new block: the state and the world behind it. -/
theorem Rel.new_block (h : Rel w0 nA nt M G ι0 A w S ι a) {k : Nat} (hk : ¬ A k) {A' : Nat → Prop} (hA : ∀ i, A i → A' i) (hAk : A' k) {ws : List (Nat × Blk)} (hf : FrzL S.h ws) {cs : Array Value} {E : TypeId} {lo hi : Nat} (hp : Pushed w w' (.cells cs E (lo, hi)))
  (hfr : hi ≤ lo ∨ SB = true ∧ cs.size ≤ lo) (m : Bool) (xs : List PV) (cap : Nat) (hcap : cap ≤ maxLen) (hc : cap ≤ cs.size) (hx : xs.length ≤ cap)
  (hxs : ∀ (j : Nat) (x : PV), xs[j]? = some x → ∃ v, cs[j]? = some v ∧ v.oneCell' = true ∧ RepP w (Held (hwsH S.h ws) ι) G x v) :
  Rel w0 nA nt M G ι0 A' w' { S with h := hwsH S.h (ws ++ [(k, .live m xs)]) } (updL ι k ⟨w.heap.size, 0, cap, 0, noInn⟩) a := by
 have h1 := h.frz hf.frz
 have hkd : hwsH S.h ws k = .dead := h1.alloc k hk
 have ok := h1.heap.new hkd hp h.keep.size (h.new _ h.keep.size) hfr m xs cap hcap hc hx hxs
 have st := Stays.new (w := w) (w' := w') (ι := ι) hp (h := hwsH S.h ws) (k := k) (m := m) (xs := xs) (l := ⟨w.heap.size, 0, cap, 0, noInn⟩) rfl
 have h2 := h1.step (A' := A') hA (hp.keep M) ok st (fun i hi => by
  have : i ≠ k := fun e => hk (e ▸ hi)
  simp [updL, this, LocEq.refl]) (fun i hi => by
  have hne : i ≠ k := fun e => hi (e ▸ hAk)
  simp only [updH, hne, if_false]
  exact h1.alloc i fun hA' => hi (hA i hA'))
 rw [hwsH_append]
 exact h2
/-- A new block of the call's own, its address the result. -/
theorem does_new {o : Oper} {k : Nat} {K : R → Prop} (h : Rel w0 nA nt M G ι0 A w S ι a) (hd : ∀ d, o.dst = some d → d < nt) (hA : ∀ x, x < 256 → ¬ A (k + x)) {ws : List (Nat × Blk)} (hf : FrzL S.h ws)
  {cs : Array Value} {E : TypeId} {lo hi : Nat} (hp : Pushed w w' (.cells cs E (lo, hi))) (hfr : hi ≤ lo ∨ SB = true ∧ cs.size ≤ lo) (m : Bool) (xs : List PV) (cap : Nat) (hcap : cap ≤ maxLen) (hc : cap ≤ cs.size) (hx : xs.length ≤ cap)
  (hxs : ∀ (j : Nat) (x : PV), xs[j]? = some x → ∃ v, cs[j]? = some v ∧ v.oneCell' = true ∧ RepP w (Held (hwsH S.h ws) ι) G x v) {v : AV} {val : Value} {rd : List Nat}
  (hr : (execOp a.eval o).run P w = .ok (.value val) w')
  (hv : (∃ len, v = .ref k 0 len ∧ len ≤ cap ∧ val = .slice (some ⟨w.heap.size, 0, none⟩) len cap) ∨ (v = .ptr k 0 ∧ val = .pointer (some ⟨w.heap.size, 0, none⟩)))
  (hK : K ⟨v, ws ++ [(k, .live m xs)], rd⟩) : Does P w0 nA nt M G ι0 A k o w S a K := by
 intro Kc Qc next
 have hk0 : ¬ A k := by simpa using hA 0 (by omega)
 have h1 := h.new_block (k := k) (A' := plus A k) hk0 (fun i hi => .inl hi) (.inr ⟨by omega, by omega⟩) hf hp hfr m xs cap hcap hc hx hxs
 refine wp_value hr (next _ _ _ (updL ι k ⟨w.heap.size, 0, cap, 0, noInn⟩) hK ?_)
 rw [app_eq]
 refine h1.put o.dst hd ?_ ?_
 ·rcases hv with ⟨len, rfl, hl, rfl⟩ | ⟨rfl, rfl⟩
  ·simp only [RepA]
   exact ⟨_, cap, rfl, hl, by simp [updL], by simpa [updL] using hcap, .inr (by simp [updL])⟩
  ·simp only [RepA]; simp [updL]
 ·rcases hv with ⟨len, rfl, _, _⟩ | ⟨rfl, _⟩ <;>
  ·intro i hi
   simp [AV.has] at hi
   exact .inr ⟨by omega, by omega⟩
theorem does_newP {o : Oper} {k : Nat} {K : R → Prop} (h : Rel w0 nA nt M G ι0 A w S ι a) (hd : ∀ d, o.dst = some d → d < nt) (hA : ∀ x, x < 256 → ¬ A (k + x)) {ws : List (Nat × Blk)} (hf : FrzL S.h ws)
  {cs : Array Value} {E : TypeId} {lo hi : Nat} (hp : Pushed w w' (.cells cs E (lo, hi))) (hfr : hi ≤ lo ∨ SB = true ∧ cs.size ≤ lo) (m : Bool) (xs : List PV) (cap : Nat) (hcap : cap ≤ maxLen) (hc : cap ≤ cs.size) (hx : xs.length ≤ cap)
  (hxs : ∀ (j : Nat) (x : PV), xs[j]? = some x → ∃ v, cs[j]? = some v ∧ v.oneCell' = true ∧ RepP w (Held (hwsH S.h ws) ι) G x v) {n : Nat} {val : Value} {rd : List Nat}
  (hr : (execOp a.eval o).run P w = .ok (.value val) w') (hv : val = .slice (some ⟨w.heap.size, 0, none⟩) n n)
  (hK : K ⟨.prs k n, ws ++ [(k, .live m xs)], rd⟩) : Does P w0 nA nt M G ι0 A k o w S a K := by
 intro Kc Qc next
 have hk0 : ¬ A k := by simpa using hA 0 (by omega)
 have h1 := h.new_block (k := k) (A' := plus A k) hk0 (fun i hi => .inl hi) (.inr ⟨by omega, by omega⟩) hf hp hfr m xs cap hcap hc hx hxs
 refine wp_value hr (next _ _ _ (updL ι k ⟨w.heap.size, 0, cap, 0, noInn⟩) hK ?_)
 rw [app_eq]
 refine h1.put o.dst hd ?_ ?_
 ·subst hv; simp only [RepA]; simp [updL]
 ·intro i hi
  simp [AV.has] at hi
  exact .inr ⟨by omega, by omega⟩
theorem cells_one {z : Value} (h : z.cells.size = 1) (h1 : z.oneCell' = true) : z.cells = #[z] := by
 cases z <;> first | rfl | simp [Value.oneCell'] at h1
theorem does_makeSlice {o : Oper} {k : Nat} {K : R → Prop} (h : Rel w0 nA nt M G ι0 A w S ι a) (hd : ∀ d, o.dst = some d → d < nt) (hA : ∀ x, x < 256 → ¬ A (k + x)) {t : TypeId} {l c : Operand}
  (ho : o.op = .makeSlice t l c) (hK : makeW P t k (Gl.opd S l) (Gl.opd S c) K) : Does P w0 nA nt M G ι0 A k o w S a K := by
 have hl := h.opd l
 have hc := h.opd c
 unfold makeW at hK
 split at hK
 ·rename_i k1 i k2 j e1 e2
  rw [e1] at hl; rw [e2] at hc
  have hl := rep_int hl
  have hc := rep_int hc
  obtain ⟨h0, h1, h2, hK⟩ := hK
  split at hK
  ·rename_i b z hs
   obtain ⟨e, inf, zv, hu, hi, hz, hsz, hzs, hz1, hb, hb64, rfl⟩ := slT_spec hs
   obtain ⟨hzc, hk⟩ := hK
   have hz' := cells_one hzs hz1
   have hm : j.toNat ≤ maxLen := by simp only [maxLen]; omega
   have hbytes : (inf.bytes : Int) * j ≤ 281474976710656 := by
    have h64 : (inf.bytes : Int) ≤ 64 := by omega
    have h3 : (inf.bytes : Int) * j ≤ 64 * 1099511627776 := Int.mul_le_mul h64 h2 (by omega) (by omega)
    omega
   have hr := run_make (P := P) w t e inf zv hu hi hz k1 k2 i j h0 h1 hbytes (by omega)
   refine does_new h hd hA (ws := []) (fun p hp => by simp at hp) (Pushed.alloc w (.cells (madeCells zv.cells (j.toNat * inf.size)) e)) (lo := 0) (hi := 0) (.inl (Nat.le_refl _)) false (List.replicate i.toNat (ofConst1 zv).cell) j.toNat hm ?_ ?_ ?_ (v := .ref k 0 i.toNat) ?_ (.inl ⟨i.toNat, rfl, by omega, rfl⟩) hk
   ·rw [size_madeCells, hsz]; omega
   ·simp; omega
   ·intro n x hx
    rw [List.getElem?_replicate] at hx
    split at hx
    ·rename_i hn
     simp only [Option.some.injEq] at hx
     subst hx
     refine ⟨zv, ?_, hz1, RepP_cell (ofConst1_rep zv)⟩
     have hn' : n < j.toNat := by omega
     simp [madeCells, hsz, hz', hn', Nat.mod_one]
    ·cases hx
   ·simp only [execOp, ho, hl, hc, Sem.run_bind, hr]; rfl
  ·exact hK.elim
 ·exact hK.elim
theorem fill_range : ∀ (vs : List Value) (start : Nat) (cells : Array Value), (∀ v ∈ vs, v.oneCell' = true) → start + vs.length ≤ cells.size →
  Instr.fill (fun i => some (i * 1, 1)) cells ((vs.zipIdx start).map fun p => (p.2, p.1)) = some (cells.toList.take start ++ vs ++ cells.toList.drop (start + vs.length)).toArray
 | [], start, cells, _, _ => by simp [Instr.fill]
 | v :: vs, start, cells, h1, hl => by
  have hv := h1 v (by simp)
  have hc : v.cells = #[v] := by cases v <;> first | rfl | simp [Value.oneCell'] at hv
  have ih := fill_range vs (start + 1) (cells.setIfInBounds start v) (fun u hu => h1 u (by simp [hu])) (by simp at hl ⊢; omega)
  have hb : ¬ (start + 1 > cells.size) := by simp at hl; omega
  have hz : (#[v] : Array Value).zipIdx.foldl (fun cs p => cs.setIfInBounds (start * 1 + p.2) p.1) cells = cells.setIfInBounds start v := by simp
  simp only [List.zipIdx_cons, List.map_cons, Instr.fill, hc]
  rw [if_neg (by simp; simp at hl; omega)]
  rw [hz, ih]
  congr 2
  have e := list_seg_step cells.toList start v vs (by simp at hl ⊢; omega)
  simpa [Array.toList_setIfInBounds] using e
end
end Go.Gl
namespace Go.Gl
open Go
variable [Amb]
section
variable {P : Program} {sg : FuncId → List Bool} {w0 : World} {nA nt : Nat} {M G : Nat → Prop} {ι0 : Nat → Loc} {A : Nat → Prop} {w w' : World} {S : St} {ι : Nat → Loc} {a : Act}
theorem pairs_range {α : Type} (l : List (Nat × α)) (n : Nat) (h : l.map (·.1) = List.range n) : l = ((l.map (·.2)).zipIdx).map (fun p => (p.2, p.1)) := by
 have hn : l.length = n := by have := congrArg List.length h; simpa using this
 apply List.ext_getElem?
 intro j
 simp only [List.getElem?_map, List.getElem?_zipIdx]
 cases hj : l[j]? with
 | none => simp
 | some p =>
  have hlt := (List.getElem?_eq_some_iff.1 hj).1
  have h1 : (l.map (·.1))[j]? = some p.1 := by simp [hj]
  rw [h, List.getElem?_range (by omega)] at h1
  have h2 : p.1 = j := (Option.some.inj h1).symm
  obtain ⟨p1, p2⟩ := p
  simp at h2
  simp [h2]
theorem run_buildSlice {t e : TypeId} {i : TypeInfo} {z : Value} (hu : P.underlying t = some (.slice e)) (hi : P.info? e = some i) (hz : i.zero = some z) (hs : i.size = 1) (hz1 : z.cells = #[z]) {n : Nat} {vals : List Value} (hn : vals.length = n) (hb : n ≤ 1000000) (h1 : ∀ v ∈ vals, v.oneCell' = true)
  {parts : Array (Nat × Value)} (hp : parts.toList = vals.zipIdx.map fun p => (p.2, p.1)) : (Instr.buildSlice t n parts).run P w = .ok (.slice (some ⟨w.heap.size, 0, none⟩) n n) (w.alloc (.cells vals.toArray e)) := by
 have hbig : ¬ (16777216 < n) := by omega
 have hf : ∀ cells : Array Value, cells.size = n → Instr.fill (fun i => some (i * 1, 1)) cells parts.toList = some vals.toArray := by
  intro cells hc
  rw [hp, fill_range vals 0 cells h1 (by omega)]
  congr 2
  have : cells.toList.drop (0 + vals.length) = [] := List.drop_eq_nil_of_le (by simp; omega)
  rw [this]; simp
 unfold Instr.buildSlice
 by_cases h0 : n = 0
 ·subst h0
  have hf0 := hf #[] rfl
  simp only [Nat.mul_one] at hf0
  simp [run_underlying hu, sizeOf, typeInfo, hi, hs, Array.range_zero', hf0, newRow]
 ·have hf1 := hf ((Array.range n).map (#[z][· % (#[z] : Array Value).size]!)) (by simp)
  simp only [Nat.mul_one] at hf1
  simp only [Sem.run_bind, run_underlying hu, Result.andThen_ok, sizeOf, typeInfo, run_program, hi, Sem.run_pure, hs, Nat.mul_one, zeroValue]
  rw [if_neg (by simpa using hbig)]
  simp only [h0, if_false, Sem.run_bind, Sem.run_pure, Result.andThen_ok, run_program, hi, hz, hz1, hf1]
  simp [newRow]
theorem fold_set : ∀ (vs : List Value) (off k : Nat) (cells : Array Value), off + k + vs.length ≤ cells.size →
  (vs.zipIdx k).foldl (fun cs (p : Value × Nat) => cs.setIfInBounds (off + p.2) p.1) cells = (cells.toList.take (off + k) ++ vs ++ cells.toList.drop (off + k + vs.length)).toArray
 | [], off, k, cells, _ => by simp
 | v :: vs, off, k, cells, h => by
  rw [List.zipIdx_cons, List.foldl_cons, fold_set vs off (k + 1) _ (by simp at h ⊢; omega)]
  congr 1
  simp only [List.length_cons] at h
  rw [Array.toList_setIfInBounds]
  have e1 : (cells.toList.set (off + k) v).take (off + (k + 1)) = cells.toList.take (off + k) ++ [v] := by
   rw [show off + (k + 1) = off + k + 1 by omega, List.take_add_one, List.take_set_of_le (Nat.le_refl _), List.getElem?_set_self (by simp; omega)]; rfl
  have e2 : (cells.toList.set (off + k) v).drop (off + (k + 1) + vs.length) = cells.toList.drop (off + k + (vs.length + 1)) := by
   rw [List.drop_set_of_lt (by omega), show off + (k + 1) + vs.length = off + k + (vs.length + 1) by omega]
  rw [e1, e2]; simp
theorem fill_two : ∀ (vs : List Value) (start : Nat) (cells : Array Value), (∀ v ∈ vs, v.cells.size = 2) → (start + vs.length) * 2 ≤ cells.size →
  Instr.fill (fun i => some (i * 2, 2)) cells ((vs.zipIdx start).map fun p => (p.2, p.1)) = some (cells.toList.take (start * 2) ++ vs.flatMap (fun v => v.cells.toList) ++ cells.toList.drop ((start + vs.length) * 2)).toArray
 | [], start, cells, _, _ => by simp [Instr.fill]
 | v :: vs, start, cells, h1, hl => by
  have hv := h1 v (by simp)
  have hvl : v.cells.toList.length = 2 := by simpa using hv
  simp only [List.length_cons] at hl
  have hf : v.cells.zipIdx.foldl (fun cs (p : Value × Nat) => cs.setIfInBounds (start * 2 + p.2) p.1) cells = (cells.toList.take (start * 2) ++ v.cells.toList ++ cells.toList.drop (start * 2 + 2)).toArray := by
   have := fold_set v.cells.toList (start * 2) 0 cells (by omega)
   rw [Nat.add_zero, hvl] at this
   rw [← this, ← Array.foldl_toList, Array.toList_zipIdx]
  have hs : ((cells.toList.take (start * 2) ++ v.cells.toList ++ cells.toList.drop (start * 2 + 2)).toArray).size = cells.size := by simp; omega
  have ih := fill_two vs (start + 1) (cells.toList.take (start * 2) ++ v.cells.toList ++ cells.toList.drop (start * 2 + 2)).toArray (fun u hu => h1 u (by simp [hu])) (by rw [hs]; omega)
  simp only [List.zipIdx_cons, List.map_cons, Instr.fill]
  rw [if_neg (by simp [hv]; omega)]
  have hf' : Array.foldl (fun cs x => cs.setIfInBounds (start * 2 + x.snd) x.fst) cells v.cells.zipIdx = (cells.toList.take (start * 2) ++ v.cells.toList ++ cells.toList.drop (start * 2 + 2)).toArray := hf
  rw [hf', ih]
  congr 2
  have el : (cells.toList.take (start * 2)).length = start * 2 := by simp; omega
  have e1 : (cells.toList.take (start * 2) ++ v.cells.toList ++ cells.toList.drop (start * 2 + 2)).take ((start + 1) * 2) = cells.toList.take (start * 2) ++ v.cells.toList := by
   rw [List.take_append_of_le_length (by simp; omega), List.take_of_length_le (by simp; omega)]
  have e2 : (cells.toList.take (start * 2) ++ v.cells.toList ++ cells.toList.drop (start * 2 + 2)).drop ((start + 1 + vs.length) * 2) = cells.toList.drop ((start + (vs.length + 1)) * 2) := by
   rw [List.drop_append, List.drop_of_length_le (by simp; omega), List.nil_append, List.drop_drop]
   congr 1; simp; omega
  simp only [List.flatMap_cons, List.length_cons]
  rw [e1, e2]; simp
theorem run_buildSlice2 {t e : TypeId} {i : TypeInfo} {z : Value} (hu : P.underlying t = some (.slice e)) (hi : P.info? e = some i) (hz : i.zero = some z) (hs : i.size = 2) {n : Nat} {vals : List Value} (hn : vals.length = n) (h0 : n ≠ 0) (hb : n ≤ 1000000) (h1 : ∀ v ∈ vals, v.cells.size = 2)
  {parts : Array (Nat × Value)} (hp : parts.toList = vals.zipIdx.map fun p => (p.2, p.1)) : (Instr.buildSlice t n parts).run P w = .ok (.slice (some ⟨w.heap.size, 0, none⟩) n n) (w.alloc (.cells (vals.flatMap fun v => v.cells.toList).toArray e)) := by
 have hbig : ¬ (16777216 < n * 2) := by omega
 have hf : ∀ cells : Array Value, cells.size = n * 2 → Instr.fill (fun i => some (i * 2, 2)) cells parts.toList = some (vals.flatMap fun v => v.cells.toList).toArray := by
  intro cells hc
  rw [hp, fill_two vals 0 cells h1 (by omega)]
  congr 2
  have : cells.toList.drop ((0 + vals.length) * 2) = [] := List.drop_eq_nil_of_le (by simp; omega)
  rw [this]; simp
 unfold Instr.buildSlice
 have hf1 := hf ((Array.range (n * 2)).map (z.cells[· % z.cells.size]!)) (by simp)
 simp only [Sem.run_bind, run_underlying hu, Result.andThen_ok, sizeOf, typeInfo, run_program, hi, Sem.run_pure, hs, zeroValue]
 rw [if_neg (by simpa using hbig)]
 have h02 : ¬ n * 2 = 0 := by omega
 simp only [h02, if_false, Sem.run_bind, Sem.run_pure, Result.andThen_ok, run_program, hi, hz, hf1]
 simp [newRow]
theorem prL_sound {F : Nat → Prop} : ∀ {vs : List AV} {us : List Value} {K : List PV → Prop}, vs.length = us.length → (∀ (j : Nat) (v : AV) (u : Value), vs[j]? = some v → us[j]? = some u → RepA w F G ι v u) → prL vs K →
  ∃ xs, K xs ∧ (∀ u ∈ us, u.cells.size = 2) ∧ xs.length = us.length * 2 ∧ ∀ (j : Nat) (x : PV), xs[j]? = some x → ∃ v, (us.flatMap fun u => u.cells.toList)[j]? = some v ∧ v.oneCell' = true ∧ RepP w F G x v
 | [], [], K, _, _, hK => ⟨[], hK, by simp, rfl, by simp⟩
 | [], _ :: _, _, hl, _, _ => by simp at hl
 | _ :: _, [], _, hl, _, _ => by simp at hl
 | v :: vs, u :: us, K, hl, hr, hK => by
  have h0 := hr 0 v u rfl rfl
  simp only [prL, prC] at hK
  split at hK
  ·rename_i x y
   obtain ⟨c1, c2, hK⟩ := hK
   simp only [RepA, RepAL] at h0
   obtain ⟨cs, rfl, v1, r1, rfl, g1, v2, r2, rfl, g2, rfl⟩ := h0
   obtain ⟨xs, k1, k2, k3, k4⟩ := prL_sound (vs := vs) (us := us) (by simpa using hl) (fun j v u a b => hr (j + 1) v u (by simpa using a) (by simpa using b)) hK
   refine ⟨x :: y :: xs, k1, fun q hq => ?_, by simp [k3]; omega, fun j z hj => ?_⟩
   ·rcases List.mem_cons.1 hq with rfl | hq
    ·rfl
    ·exact k2 q hq
   ·rw [List.flatMap_cons, show (Value.agg ⟨[v1, v2]⟩).cells.toList = [v1, v2] from rfl]
    match j with
    | 0 => simp at hj; subst hj; exact ⟨v1, rfl, oneCell_of_cellOk c1 g1, g1⟩
    | 1 => simp at hj; subst hj; exact ⟨v2, rfl, oneCell_of_cellOk c2 g2, g2⟩
    | j + 2 => exact k4 j z (by simpa using hj)
  ·exact hK.elim
theorem does_buildPair {o : Oper} {k : Nat} {K : R → Prop} (h : Rel w0 nA nt M G ι0 A w S ι a) (hd : ∀ d, o.dst = some d → d < nt) (hA : ∀ x, x < 256 → ¬ A (k + x)) {t : TypeId} {n : Nat} {parts : Array (Nat × Operand)}
  (ho : o.op = .buildSlice t n parts) (ht : pairT P t = true) (hp : partsOk n parts = true) (h0 : 1 ≤ n) (hn : n ≤ 1000000) (hK : prL (parts.toList.map fun p => Gl.opd S p.2) fun xs => K ⟨.prs k n, [(k, .live false xs)], []⟩) : Does P w0 nA nt M G ι0 A k o w S a K := by
 obtain ⟨e, inf, zv, hu, hi, hz, hsz⟩ := pairT_some ht
 have hpl : parts.toList.map (·.1) = List.range n := by simpa [partsOk] using hp
 have hpn : parts.toList.length = n := by have := congrArg List.length hpl; simpa using this
 let vals : List Value := parts.toList.map fun p => a.eval p.2
 have hvn : vals.length = n := by simp [vals]; simpa using hpn
 obtain ⟨xs, k1, k2, k3, k4⟩ := prL_sound (us := vals) (w := w) (F := Held S.h ι) (G := G) (ι := ι) (by simp [vals]) (fun j v u e1 e2 => by
  rw [List.getElem?_map, Option.map_eq_some_iff] at e1 e2
  obtain ⟨p, hp1, rfl⟩ := e1
  obtain ⟨q, hq1, rfl⟩ := e2
  rw [hp1] at hq1; cases hq1
  exact h.opd p.2) hK
 have hr := run_buildSlice2 (P := P) (w := w) hu hi hz hsz hvn (by omega) hn k2 (parts := parts.map fun p => (p.1, a.eval p.2)) (by
  simp only [Array.toList_map]
  rw [pairs_range (parts.toList.map fun p => (p.1, a.eval p.2)) n (by simpa [Function.comp_def] using hpl)]
  simp [vals, Function.comp_def])
 have hcl : (vals.flatMap fun v => v.cells.toList).length = n * 2 := by
  have key : ∀ l : List Value, (∀ u ∈ l, u.cells.size = 2) → (l.flatMap fun v => v.cells.toList).length = l.length * 2 := fun l => by
   induction l with
   | nil => intro _; rfl
   | cons u l ih => intro hl; rw [List.flatMap_cons, List.length_append, ih fun q hq => hl q (by simp [hq])]; have := hl u (by simp); simp [this]; omega
  rw [key vals k2, hvn]
 refine does_newP h hd hA (ws := []) (by simp [FrzL]) (Pushed.alloc w (.cells (vals.flatMap fun v => v.cells.toList).toArray e)) (lo := 0) (hi := 0) (.inl (Nat.le_refl _)) false xs (n * 2) (by simp only [maxLen]; omega) (by simp [hcl]) (by omega) ?_ (n := n) ?_ rfl k1
 ·intro j x hx
  obtain ⟨v, e1, e2, e3⟩ := k4 j x hx
  exact ⟨v, by simpa using e1, e2, e3⟩
 ·simp only [execOp, ho, Sem.run_bind, hr]; rfl
theorem does_buildSlice {o : Oper} {k : Nat} {K : R → Prop} (h : Rel w0 nA nt M G ι0 A w S ι a) (hd : ∀ d, o.dst = some d → d < nt) (hA : ∀ x, x < 256 → ¬ A (k + x)) {t : TypeId} {n : Nat} {parts : Array (Nat × Operand)}
  (ho : o.op = .buildSlice t n parts) (hK : buildSliceW P t n parts k (Gl.opd S) S.h K) : Does P w0 nA nt M G ι0 A k o w S a K := by
 unfold buildSliceW at hK
 split at hK
 ·rename_i ht
  exact does_buildPair h hd hA ho ht hK.1 hK.2.1 hK.2.2.1 hK.2.2.2
 obtain ⟨ht, hp, hn, hK⟩ := hK
 obtain ⟨e, inf, zv, hu, hi, hz, hsz, hzs, hz1, hb⟩ := slT_some ht
 obtain ⟨xs, ws, rd, hk, hf, hlen, hok, _, hrep⟩ := pubs_sound hK
 have hpl : parts.toList.map (·.1) = List.range n := by simpa [partsOk] using hp
 have hpn : parts.toList.length = n := by have := congrArg List.length hpl; simpa using this
 have rep := fun (j : Nat) (p : Nat × Operand) (x : PV) (hj : parts.toList[j]? = some p) (hx : xs[j]? = some x) =>
  hrep h.heap hf.frz (hwsH_frz hf) j (opd S p.2) (a.eval p.2) x (by simp [hj]) hx (h.opd p.2)
 have hxn : xs.length = n := by rw [hlen]; simp; simpa using hpn
 let vals : List Value := parts.toList.map fun p => a.eval p.2
 have hvn : vals.length = n := by simp [vals]; simpa using hpn
 have h1 : ∀ v ∈ vals, v.oneCell' = true := by
  intro v hv
  obtain ⟨j, hj⟩ := List.mem_iff_getElem?.1 hv
  simp only [vals, List.getElem?_map, Option.map_eq_some_iff] at hj
  obtain ⟨p, hp1, hp2⟩ := hj
  have hjlt : j < xs.length := by have := (List.getElem?_eq_some_iff.1 hp1).1; omega
  have hx := List.getElem?_eq_getElem hjlt
  have := rep j p _ hp1 hx
  subst hp2
  exact oneCell_of_cellOk (hok _ (List.getElem_mem hjlt)) this
 have hr := run_buildSlice (P := P) (w := w) hu hi hz hsz (cells_one hzs hz1) hvn hn h1 (parts := parts.map fun p => (p.1, a.eval p.2)) (by
  simp only [Array.toList_map]
  rw [pairs_range (parts.toList.map fun p => (p.1, a.eval p.2)) n (by simpa [Function.comp_def] using hpl)]
  simp [vals, Function.comp_def])
 refine does_new h hd hA hf (Pushed.alloc w (.cells vals.toArray e)) (lo := 0) (hi := 0) (.inl (Nat.le_refl _)) false xs n (by simp only [maxLen]; omega) (by simp; omega) (by omega) ?_ (v := .ref k 0 n) ?_ (.inl ⟨n, rfl, Nat.le_refl _, rfl⟩) hk
 ·intro j x hx
  have hjlt := (List.getElem?_eq_some_iff.1 hx).1
  have hjp : j < parts.toList.length := by omega
  have hp1 := List.getElem?_eq_getElem hjp
  refine ⟨a.eval (parts.toList[j]'hjp).2, ?_, ?_, rep j _ x hp1 hx⟩
  ·simp only [vals, List.getElem?_toArray, List.getElem?_map, hp1, Option.map_some]
  ·exact oneCell_of_cellOk (hok x (List.mem_of_getElem? hx)) (rep j _ x hp1 hx)
 ·simp only [execOp, ho, Sem.run_bind, hr]; rfl
/-! ### append -/
/-- What is appended: as many cells, these. -/
structure Src (P : Program) (w : World) (x : Value) (news : List Value) : Prop where
 len : ∀ w1, (Builtin.lenOf x).run P w1 = .ok news.length w1
 cells : ∀ w1 : World, w1.heap = w.heap → (Builtin.firstCells 1 news.length x).run P w1 = .ok ⟨news⟩ w1
 one : ∀ v ∈ news, v.oneCell' = true
theorem cell?_heap {w w1 : World} (h : w1.heap = w.heap) (a : Addr) : w1.cell? a = w.cell? a := by simp only [World.cell?, h]
theorem src_of_cells {ad : Option Addr} {xs : List PV} {F : Nat → Prop} {n cap : Nat} (hn : xs.length = n) (h : xs = [] ∨ ∃ B off, ad = some ⟨B, off, none⟩ ∧ RepC w F G B off xs) :
  ∃ news, news.length = xs.length ∧ Src P w (.slice ad n cap) news ∧ ∀ (j : Nat) (y : PV), xs[j]? = some y → ∃ v, news[j]? = some v ∧ RepP w F G y v := by
 rcases h with rfl | ⟨B, off, rfl, hc⟩
 ·refine ⟨[], rfl, ⟨fun w1 => by simp at hn; subst hn; simp [Builtin.lenOf], fun w1 _ => ?_, fun v hv => by simp at hv⟩, fun j y hj => by simp at hj⟩
  cases ad <;> simp [Builtin.firstCells, loadCells, loadCellsFrom]
 ·obtain ⟨cs, hl, hlen, hcells, hone⟩ := RepC_list hc
  refine ⟨cs, hlen, ⟨fun w1 => by simp [Builtin.lenOf, hlen, hn], fun w1 hw => ?_, hone⟩, fun j y hj => RepL_get hl j y hj⟩
  have := run_firstCells_some (P := P) w1 1 cs.length ⟨B, off, none⟩ n cap cs (by omega) (fun j v hj => by rw [add_at, cell?_heap hw]; exact hcells j v hj)
  exact this
theorem cont_sound (h : Rel w0 nA nt M G ι0 A w S ι a) {v : AV} {x : Value} {K : List PV → List Nat → Prop} (hx : RepA w (Held S.h ι) G ι v x) (hK : cont S.h v K) :
  ∃ ys rd, K ys rd ∧ ∃ news, news.length = ys.length ∧ Src P w x news ∧ ∀ (j : Nat) (y : PV), ys[j]? = some y → ∃ u, news[j]? = some u ∧ RepP w (Held S.h ι) G y u := by
 unfold cont at hK
 split at hK
 ·rename_i fl xs
  obtain ⟨ad, cap, rfl, hl, hm, _, hc⟩ := rep_sl hx
  refine ⟨_, _, hK, src_of_cells rfl ?_⟩
  rcases hc with hc | ⟨B, off, ha, _, _, hc⟩
  ·exact .inl hc
  ·exact .inr ⟨B, off, ha, hc⟩
 ·rename_i s
  have hx := rep_str hx
  subst hx
  refine ⟨_, _, hK, s.map (fun b => Value.int .u8 b.toNat), by simp, ⟨fun w1 => by simp [Builtin.lenOf, ByteArray.size], fun w1 _ => ?_, fun v hv => ?_⟩, fun j y hj => ?_⟩
  ·have hsz : (⟨s.toArray⟩ : ByteArray).size = s.length := by simp [ByteArray.size]
   have he : (⟨s.toArray⟩ : ByteArray).extract 0 s.length = ⟨s.toArray⟩ := by rw [← hsz]; exact ByteArray.extract_zero_size
   simp only [Builtin.firstCells, List.length_map, Sem.run_pure, he]
   simp
  ·simp only [List.mem_map] at hv
   obtain ⟨b, _, rfl⟩ := hv
   rfl
  ·simp only [List.getElem?_map, Option.map_eq_some_iff] at hj ⊢
   obtain ⟨b, hb, rfl⟩ := hj
   exact ⟨_, ⟨b, hb, rfl⟩, RepP_int⟩
 ·rename_i id off len
  obtain ⟨ad, cap, rfl, hl, hcap, hm, hc⟩ := rep_ref hx
  have key : ∀ c, ((∃ m, S.h id = .live m c) ∨ ∃ m, S.h id = .froz m c) → off + len ≤ c.length → K ((c.drop off).take len) [id] →
    ∃ ys rd, K ys rd ∧ ∃ news, news.length = ys.length ∧ Src P w (.slice ad len cap) news ∧ ∀ (j : Nat) (y : PV), ys[j]? = some y → ∃ u, news[j]? = some u ∧ RepP w (Held S.h ι) G y u := by
   intro c hb hle hk
   refine ⟨_, _, hk, src_of_cells (by simp; omega) ?_⟩
   by_cases h0 : len = 0
   ·left; subst h0; simp
   ·right
    rcases hc with hc | rfl
    ·omega
    ·exact ⟨_, _, rfl, RepC_take (RepC_drop (h.heap.cells hb (by intro e; subst e; simp at hle; omega)) off) len⟩
  split at hK
  ·rename_i m c hb; exact key c (.inl ⟨m, hb⟩) hK.1 hK.2
  ·rename_i m c hb; exact key c (.inr ⟨m, hb⟩) hK.1 hK.2
  ·exact hK.elim
 ·rename_i id r off len
  obtain ⟨_, ad, cap, rfl, hl, hcap, hm, hc⟩ := rep_inn hx
  split at hK
  ·rename_i m cs rs hb
   split at hK
   ·rename_i c hr
    refine ⟨_, _, hK.2, src_of_cells (by simp; omega) ?_⟩
    by_cases h0 : len = 0
    ·left; subst h0; simp
    ·right
     rcases hc with hc | rfl
     ·omega
     ·obtain ⟨_, hrow⟩ := h.heap.deepRow hb hr
      exact ⟨_, _, rfl, RepC_take (RepC_drop (hrow.cells (by intro e; subst e; simp at hK; omega)).1 off) len⟩
   ·exact hK.elim
  ·exact hK.elim
 ·exact hK.elim
theorem zeros_no {t' : TypeId} (h : (slT P t').isSome = true ∨ strT P t' = true) : (∃ e, P.underlying t' = some (.slice e)) ∨ P.underlying t' = some .string := by
 rcases h with h | h
 ·obtain ⟨e, i, z, hu, _⟩ := slT_some h
  exact .inl ⟨e, hu⟩
 ·exact .inr (strT_spec h)
theorem run_append_fit {t t' ty e : TypeId} {i : TypeInfo} (hu : P.underlying t = some (.slice e)) (hi : P.info? e = some i) (hs : i.size = 1) (ht' : (slT P t').isSome = true ∨ strT P t' = true) {base : Option Addr} {sLen sCap : Nat} {x : Value} {news : List Value} (src : Src P w x news) (hfit : sLen + news.length ≤ sCap)
  (hst : ∀ b, base = some b → (storeCells (b.add sLen) news).run P w = .ok () w') (hno : base = none → w' = w) :
  (Builtin.append_ #[t, t'] ty #[.slice base sLen sCap, x]).run P w = .ok (.slice base (sLen + news.length) sCap) w' := by
 have hc := src.cells w rfl
 have hl := src.len w
 cases base with
 | none =>
  obtain rfl := hno rfl
  rcases zeros_no ht' with ⟨e', hz⟩ | hz <;> simp [Builtin.append_, run_underlying hu, run_underlying hz, sizeOf, typeInfo, hi, hs, hl, hfit, hc]
 | some b =>
  have hst := hst b rfl
  rcases zeros_no ht' with ⟨e', hz⟩ | hz <;> simp [Builtin.append_, run_underlying hu, run_underlying hz, sizeOf, typeInfo, hi, hs, hl, hfit, hc, hst]
theorem run_append_more {t t' ty e : TypeId} {i : TypeInfo} {z : Value} (hu : P.underlying t = some (.slice e)) (hi : P.info? e = some i) (hz : i.zero = some z) (hs : i.size = 1) (hb : i.bytes ≤ 64) (ht' : (slT P t').isSome = true ∨ strT P t' = true) {base : Option Addr} {sLen sCap : Nat} {x : Value} {olds news : List Value} (src : Src P w x news) (hfit : sCap < sLen + news.length)
  (hold : ∀ w1 : World, w1.heap = w.heap → (Builtin.firstCells 1 sLen (.slice base sLen sCap)).run P w1 = .ok ⟨olds⟩ w1) (hbig : sLen + news.length ≤ 1099511627776) :
  (Builtin.append_ #[t, t'] ty #[.slice base sLen sCap, x]).run P w =
   .ok (.slice (some ⟨w.heap.size, 0, none⟩) (sLen + news.length) (grownCap w (sLen + news.length) sCap e))
    (w.drew.alloc (.cells (olds ++ news ++ (Builtin.zeroCells z.cells (grownCap w (sLen + news.length) sCap e - (sLen + news.length))).toList).toArray e)) := by
 have hl := src.len w
 have hn : ¬ (sLen + news.length ≤ sCap) := by omega
 have h63' : ¬ (9223372036854775807 < ((sLen : Int) + (news.length : Int))) := by omega
 have h48 := growslice_fits (bytes := i.bytes) hfit (by
  have h3 : (sLen + news.length) * i.bytes ≤ 1099511627776 * 64 := Nat.mul_le_mul hbig hb
  omega)
 have h48' : ¬ (281474976710656 < Builtin.nextslicecap (sLen + news.length) sCap * i.bytes) := by omega
 have hf := src.cells w.drew rfl
 have hfo := hold w.drew rfl
 rcases zeros_no ht' with ⟨e', hz'⟩ | hz'
 all_goals
  simp [Builtin.append_, run_underlying hu, run_underlying hz', sizeOf, typeInfo, zeroValue, hi, hs, hz, hl, hn, h63', h48', Question.forced, hf, hfo, newRow, grownCap]
  congr 2
  apply Array.ext'
  simp
end
end Go.Gl
namespace Go.Gl
open Go
variable [Amb]
section
variable {P : Program} {sg : FuncId → List Bool} {w0 : World} {nA nt : Nat} {M G : Nat → Prop} {ι0 : Nat → Loc} {A : Nat → Prop} {w w' : World} {S : St} {ι : Nat → Loc} {a : Act}
/-- A block of the call's own is let go, a new one with its elements and more stands in its place. -/
theorem Rel.kill (h : Rel w0 nA nt M G ι0 A w S ι a) (k : Nat) : Rel w0 nA nt M G ι0 A w { S with h := updH S.h k .dead } ι a := by
 obtain ⟨ok, hh⟩ := h.heap.kill k
 refine h.step (fun _ hi => hi) (Keep.refl w M) ok (fun B o v hF hv => ⟨hv, fun h' => hF (hh B h')⟩) (fun _ _ => LocEq.refl _) fun i hi => ?_
 simp only [updH]
 split
 ·rfl
 ·exact h.alloc i hi
theorem upd_comm (h : Nat → Blk) {i k : Nat} (hne : i ≠ k) (b c : Blk) : updH (updH h i b) k c = updH (updH h k c) i b := by
 funext j
 simp only [updH]
 by_cases h1 : j = k
 ·subst h1; simp [Ne.symm hne]
 ·simp [h1]
theorem append_get {olds news : List Value} {cs ys : List PV} {F : Nat → Prop} {rest : List Value} (hlen : olds.length = cs.length) (h1 : ∀ (j : Nat) (x : PV), cs[j]? = some x → ∃ v, olds[j]? = some v ∧ v.oneCell' = true ∧ RepP w F G x v)
  (h2 : ∀ (j : Nat) (x : PV), ys[j]? = some x → ∃ v, news[j]? = some v ∧ RepP w F G x v) (ho : ∀ v ∈ news, v.oneCell' = true) : ∀ (j : Nat) (x : PV), (cs ++ ys)[j]? = some x → ∃ v, (olds ++ news ++ rest)[j]? = some v ∧ v.oneCell' = true ∧ RepP w F G x v := by
 intro j x hj
 rw [List.getElem?_append] at hj
 split at hj
 ·rename_i hlt
  obtain ⟨v, hv, h1', hr⟩ := h1 j x hj
  refine ⟨v, ?_, h1', hr⟩
  rw [List.append_assoc, List.getElem?_append_left (by omega)]
  exact hv
 ·rename_i hge
  obtain ⟨v, hv, hr⟩ := h2 _ x hj
  refine ⟨v, ?_, ho v (List.mem_of_getElem? hv), hr⟩
  have hlt := (List.getElem?_eq_some_iff.1 hv).1
  rw [List.append_assoc, List.getElem?_append_right (by omega), List.getElem?_append_left (by omega), hlen]
  exact hv
theorem exec_append {o : Oper} {t t' : TypeId} {s x : Operand} (ho : o.op = .call { callee := .builtin .append, args := ⟨[s, x]⟩, argTypes := ⟨[t, t']⟩ }) {r : Result Value} {sv : Value} (hsv : a.eval s = sv)
  (hr : (Builtin.append_ #[t, t'] o.type #[sv, a.eval x]).run P w = r) : (execOp a.eval o).run P w = r.andThen fun v w' => .ok (.value v) w' := by
 subst hsv
 simp only [execOp, ho, resolve, invoke, builtin, Sem.run_bind, Sem.run_pure, Result.andThen_ok, List.map_toArray, List.map_cons, List.map_nil, hr]
/-- Append to a slice of the call's own. -/
theorem append_ref {o : Oper} {k : Nat} {K : R → Prop} (h : Rel w0 nA nt M G ι0 A w S ι a) (hd : ∀ d, o.dst = some d → d < nt) (hk0 : ¬ A k) {t t' e : TypeId} {inf : TypeInfo} {zv : Value} {s x : Operand}
  (hu : P.underlying t = some (.slice e)) (hi : P.info? e = some inf) (hz : inf.zero = some zv) (hsz : inf.size = 1) (hzs : zv.cells.size = 1) (hz1 : zv.oneCell' = true) (hb : inf.bytes ≤ 64)
  (ht' : (slT P t').isSome = true ∨ strT P t' = true) {ys : List PV} {rd : List Nat} {news : List Value} (hnl : news.length = ys.length) (src : Src P w (a.eval x) news)
  (hnews : ∀ (j : Nat) (y : PV), ys[j]? = some y → ∃ u, news[j]? = some u ∧ RepP w (Held S.h ι) G y u)
  (exec : ∀ {r : Result Value} {sv : Value}, a.eval s = sv → (Builtin.append_ #[t, t'] o.type #[sv, a.eval x]).run P w = r → (execOp a.eval o).run P w = r.andThen fun v w' => .ok (.value v) w')
  {id off len : Nat} (hs : RepA w (Held S.h ι) G ι (.ref id off len) (a.eval s)) (hid : A id) {m : Bool} {c : List PV} (hblk : S.h id = .live m c)
  (hK : len + ys.length ≤ 1099511627776 ∧ off + len ≤ c.length ∧
    (if off + len = c.length then K ⟨.ref k 0 (len + ys.length), [(id, .dead), (k, .live m (c.drop off ++ ys))], id :: rd⟩
    else if off + len + ys.length ≤ c.length then K ⟨.ref k off (len + ys.length), [(id, .dead), (k, .live m (c.take (off + len) ++ ys ++ c.drop (off + len + ys.length)))], id :: rd⟩
    else K ⟨.ref k 0 (len + ys.length), [(id, .dead), (k, .live m ((c.drop off).take len ++ ys))], id :: rd⟩)) : Does P w0 nA nt M G ι0 A k o w S a K := by
 have hne : id ≠ k := fun e => hk0 (e ▸ hid)
 obtain ⟨ad, cap, hv, hl, hcap, hcm, hc⟩ := rep_ref hs
 obtain ⟨hbig, hle, hK⟩ := hK
 obtain ⟨g1, g2, g3⟩ := h.heap.live id m c hblk
 -- the old elements
 have old : ∃ olds : List Value, olds.length = len ∧ (∀ (j : Nat) (x : PV), ((c.drop off).take len)[j]? = some x → ∃ v, olds[j]? = some v ∧ v.oneCell' = true ∧ RepP w (Held S.h ι) G x v) ∧
   (∀ w1 : World, w1.heap = w.heap → (Builtin.firstCells 1 len (.slice ad len cap)).run P w1 = .ok ⟨olds⟩ w1) := by
  by_cases h0 : len = 0
  ·subst h0
   refine ⟨[], rfl, fun j x hj => by simp at hj, fun w1 _ => ?_⟩
   cases ad <;> simp [Builtin.firstCells, loadCells, loadCellsFrom]
  ·rcases hc with hc | rfl
   ·omega
   ·have hcells := RepC_take (RepC_drop (h.heap.cells (.inl ⟨m, hblk⟩) (by intro e; subst e; simp at hle; omega)) off) len
    obtain ⟨cs, q1, q2, q3, q4⟩ := RepC_list hcells
    have hcl : cs.length = len := by rw [q2]; simp; omega
    refine ⟨cs, hcl, fun j x hj => ?_, fun w1 hw => ?_⟩
    ·obtain ⟨v, hv1, hv2⟩ := RepL_get q1 j x hj
     exact ⟨v, hv1, q4 v (List.mem_of_getElem? hv1), hv2⟩
    ·exact run_firstCells_some (P := P) w1 1 len _ len cap cs (by omega) (fun j v hj => by rw [add_at, cell?_heap hw]; exact q3 j v hj)
 obtain ⟨olds, ol1, ol2, ol3⟩ := old
 have ol4 : ((c.drop off).take len).length = len := by simp; omega
 by_cases hfit : len + ys.length ≤ cap
 ·-- in place
  by_cases hcap0 : cap = 0
  ·-- no room, nothing to lay
   have hy0 : ys = [] := List.eq_nil_of_length_eq_zero (by omega)
   have hl0 : len = 0 := by omega
   subst hl0
   subst hcap0
   have hn0 : news = [] := List.eq_nil_of_length_eq_zero (by rw [hnl, hy0]; rfl)
   subst hn0
   have hr := run_append_fit (P := P) (w := w) (w' := w) (ty := o.type) hu hi hsz ht' (base := ad) (sLen := 0) (sCap := 0) src (by simp) (fun b _ => rfl) (fun _ => rfl)
   have hco : c.length = off := by omega
   rw [if_pos (by omega)] at hK
   have hK' : K ⟨.ref k 0 0, [(id, .dead), (k, .live m [])], id :: rd⟩ := by
    have e1 : c.drop off ++ ys = [] := by rw [hy0, List.append_nil]; exact List.drop_eq_nil_of_le (by omega)
    rw [e1, hy0] at hK
    exact hK
   intro Kc Qc next
   have h1 := h.kill id
   obtain ⟨ok, hh⟩ := h1.heap.nil (k := k) (h1.alloc k hk0) m ⟨0, 0, 0, 0, noInn⟩ rfl
   have h2 := h1.step (A' := plus A k) (fun i hi => .inl hi) (Keep.refl w M) ok (fun B o v hF hv => ⟨hv, fun h' => hF (hh B h')⟩) (fun i hi => by
    have : i ≠ k := fun e => hk0 (e ▸ hi)
    simp [updL, this, LocEq.refl]) (fun i hi => by
    have hne : i ≠ k := fun e => hi (.inr ⟨by omega, by omega⟩)
    simp only [updH, hne, if_false]
    exact h1.alloc i fun hA => hi (.inl hA))
   have hr2 := exec hv hr
   refine wp_value hr2 (next _ _ _ (updL ι k ⟨0, 0, 0, 0, noInn⟩) hK' ?_)
   rw [app_eq]
   refine h2.put o.dst hd ?_ ?_
   ·simp only [RepA]
    exact ⟨ad, 0, rfl, by simp, by simp [updL], by simp [updL], .inl rfl⟩
   ·intro i hi
    simp [AV.has] at hi
    exact .inr ⟨by omega, by omega⟩
  ·rcases hc with hc | rfl
   ·exact absurd hc hcap0
   ·have hcap1 : (ι id).cap ≠ 0 := by omega
    rcases g3 with g3 | ⟨⟨cs, E, lo, hi', hcell, hroom, hfr⟩, hrepc, gx⟩
    ·exact absurd g3 hcap1
    ·have hst := run_storeCells_gen P (ι id).B ((ι id).off + off + len) E lo hi' news 0 cs w hcell (hfr.imp_right And.right) (by omega) src.one
     simp only [Nat.add_zero] at hst
     have hr := run_append_fit (P := P) (w := w) (ty := o.type) hu hi hsz ht' (base := some ⟨(ι id).B, (ι id).off + off, none⟩) (sLen := len) (sCap := cap) src (by omega) (fun b hb => by cases hb; rw [add_at]; exact hst) (fun hb => by cases hb)
     have hr2 := exec hv hr
     simp only [Result.andThen_ok] at hr2
     have hwr : Wrote w (w.setRow (ι id).B (cs.toList.take ((ι id).off + off + len) ++ news ++ cs.toList.drop ((ι id).off + off + len + news.length)).toArray) (ι id).B _ := Wrote.setRow hcell (by simp; omega)
     have hBk : w0.heap.size ≤ (ι id).B ∨ M (ι id).B := by
      rcases gx with ⟨g, _⟩ | ⟨_, g⟩
      ·exact .inl g
      ·exact .inr g
     rw [RepC_iff] at hrepc
     -- the cells behind the write
     have cellAt : ∀ j, (cs.toList.take ((ι id).off + off + len) ++ news ++ cs.toList.drop ((ι id).off + off + len + news.length)).toArray[j]? =
       if j < (ι id).off + off + len then cs[j]? else if j < (ι id).off + off + len + news.length then news[j - ((ι id).off + off + len)]? else cs[j]? := by
      intro j
      have htk : (cs.toList.take ((ι id).off + off + len)).length = (ι id).off + off + len := by simp; omega
      rw [List.getElem?_toArray, List.append_assoc]
      by_cases q1 : j < (ι id).off + off + len
      ·rw [if_pos q1, List.getElem?_append_left (by omega), List.getElem?_take, if_pos q1]; simp
      ·rw [if_neg q1, List.getElem?_append_right (by omega), htk]
       by_cases q2 : j < (ι id).off + off + len + news.length
       ·rw [if_pos q2, List.getElem?_append_left (by omega)]
       ·rw [if_neg q2, List.getElem?_append_right (by omega), List.getElem?_drop]
        rw [show (ι id).off + off + len + news.length + (j - ((ι id).off + off + len) - news.length) = j from by omega]; simp
     have oldCell : ∀ (j : Nat) (y : PV), c[j]? = some y → ∃ v, cs[(ι id).off + j]? = some v ∧ v.oneCell' = true ∧ RepP w (Held S.h ι) G y v := by
      intro j y hj
      obtain ⟨v, hv1, hv2, hv3⟩ := hrepc j y hj
      rw [cell?_eq, hcell] at hv1
      exact ⟨v, hv1, hv2, hv3⟩
     -- one of three shapes
     have shape : ∃ off2 c2, K ⟨.ref k off2 (len + ys.length), [(id, .dead), (k, .live m c2)], id :: rd⟩ ∧ off2 ≤ off ∧ ((off2 = 0 ∧ c2 = (c.drop off).take len ++ ys) ∨ (off2 = off ∧ off + len + ys.length ≤ c.length ∧ c2 = c.take (off + len) ++ ys ++ c.drop (off + len + ys.length))) := by
      by_cases q1 : off + len = c.length
      ·rw [if_pos q1] at hK
       refine ⟨0, _, hK, by omega, .inl ⟨rfl, ?_⟩⟩
       rw [List.take_of_length_le (by simp; omega)]
      ·rw [if_neg q1] at hK
       by_cases q2 : off + len + ys.length ≤ c.length
       ·rw [if_pos q2] at hK
        exact ⟨off, _, hK, Nat.le_refl _, .inr ⟨rfl, q2, rfl⟩⟩
       ·rw [if_neg q2] at hK
        exact ⟨0, _, hK, by omega, .inl ⟨rfl, rfl⟩⟩
     obtain ⟨off2, c2, hK2, ho2, hshape⟩ := shape
     intro Kc Qc next
     have W := h.heap.write (k := k) (c' := c2) hblk (.inr (h.alloc k hk0)) hcap1 hwr ((ι id).off + (off - off2)) ((ι id).cap - (off - off2)) 0 noInn (by omega) (by omega) (by
      rcases hshape with ⟨rfl, rfl⟩ | ⟨rfl, q, rfl⟩
      ·rw [List.length_append, ol4]; omega
      ·simp; omega) (by
      intro j y hj
      rcases hshape with ⟨rfl, rfl⟩ | ⟨rfl, q, rfl⟩
      ·rw [List.getElem?_append] at hj
       rw [cellAt]
       split at hj
       ·rename_i hlt
        rw [List.getElem?_take] at hj
        split at hj
        ·rw [List.getElem?_drop] at hj
         obtain ⟨v, hv1, hv2, hv3⟩ := oldCell _ y hj
         refine ⟨v, ?_, hv2, hv3⟩
         rw [if_pos (by omega), show (ι id).off + (off - 0) + j = (ι id).off + (off + j) from by omega]; exact hv1
        ·cases hj
       ·rename_i hge
        rw [ol4] at hj hge
        obtain ⟨v, hv1, hv2⟩ := hnews _ y hj
        have hlt := (List.getElem?_eq_some_iff.1 hv1).1
        refine ⟨v, ?_, src.one v (List.mem_of_getElem? hv1), hv2⟩
        rw [if_neg (by omega), if_pos (by omega), show (ι id).off + (off - 0) + j - ((ι id).off + off + len) = j - len from by omega]; exact hv1
      ·have htk : (c.take (off2 + len)).length = off2 + len := by simp; omega
       rw [cellAt]
       simp only [Nat.sub_self, Nat.add_zero]
       rw [List.append_assoc, List.getElem?_append] at hj
       split at hj
       ·rename_i hlt
        rw [List.getElem?_take] at hj
        split at hj
        ·obtain ⟨v, hv1, hv2, hv3⟩ := oldCell _ y hj
         exact ⟨v, by rw [if_pos (by omega)]; exact hv1, hv2, hv3⟩
        ·cases hj
       ·rename_i hge
        rw [htk] at hj hge
        rw [List.getElem?_append] at hj
        split at hj
        ·rename_i hlt2
         obtain ⟨v, hv1, hv2⟩ := hnews _ y hj
         refine ⟨v, ?_, src.one v (List.mem_of_getElem? hv1), hv2⟩
         rw [if_neg (by omega), if_pos (by omega), show (ι id).off + j - ((ι id).off + off2 + len) = j - (off2 + len) from by omega]; exact hv1
        ·rename_i hge2
         rw [List.getElem?_drop, show off2 + len + ys.length + (j - (off2 + len) - ys.length) = j from by omega] at hj
         obtain ⟨v, hv1, hv2, hv3⟩ := oldCell _ y hj
         exact ⟨v, by rw [if_neg (by omega), if_neg (by omega)]; exact hv1, hv2, hv3⟩)
     obtain ⟨ok, hh, st⟩ := W
     have h2 := h.stepK (A' := plus A k) (fun i hi => .inl hi) (hwr.keep hBk h.keep) ok st (fun i hi => by
      have : i ≠ k := fun e => hk0 (e ▸ hi)
      simp [updL, this, LocEq.refl]) (fun i hi => by
      have hne : i ≠ k := fun e => hi (.inr ⟨by omega, by omega⟩)
      have hne2 : i ≠ id := fun e => hi (.inl (e ▸ hid))
      simp only [updH, hne, hne2, if_false]
      exact h.alloc i fun hA => hi (.inl hA))
     refine wp_value hr2 (next _ _ _ (updL ι k ⟨(ι id).B, (ι id).off + (off - off2), (ι id).cap - (off - off2), 0, noInn⟩) hK2 ?_)
     rw [app_eq]
     refine h2.put o.dst hd ?_ ?_
     ·simp only [RepA, updL, if_true]
      refine ⟨_, cap, by rw [hnl], by omega, by omega, by omega, .inr ?_⟩
      rw [show (ι id).off + off = (ι id).off + (off - off2) + off2 from by omega]
     ·intro i hi
      simp [AV.has] at hi
      exact .inr ⟨by omega, by omega⟩
 ·-- a new block
  have hK2 : K ⟨.ref k 0 (len + ys.length), [(id, .dead), (k, .live m ((c.drop off).take len ++ ys))], id :: rd⟩ := by
   by_cases q1 : off + len = c.length
   ·rw [if_pos q1] at hK
    rwa [List.take_of_length_le (by simp; omega)]
   ·rw [if_neg q1, if_neg (by omega)] at hK
    exact hK
  have hr := run_append_more (P := P) (w := w) (ty := o.type) hu hi hz hsz hb ht' (base := ad) (sLen := len) (sCap := cap) (olds := olds) src (by omega) ol3 (by omega)
  have hr2 := exec hv hr
  simp only [Result.andThen_ok] at hr2
  have hgc := grownCap_ge w (len + news.length) cap e
  have hgm := grownCap_le_maxLen w (len + news.length) cap e (by simp only [maxLen]; omega)
  intro Kc Qc next
  have hk2 : hwsH S.h [] k = .dead := h.alloc k hk0
  have hzc := cells_one hzs hz1
  have h1 := h.new_block (k := k) (A' := plus A k) hk0 (fun i hi => .inl hi) (.inr ⟨by omega, by omega⟩) (ws := []) (fun p hp => by simp at hp) (Pushed.drew w (.cells (olds ++ news ++ (Builtin.zeroCells zv.cells (grownCap w (len + news.length) cap e - (len + news.length))).toList).toArray e)) (lo := 0) (hi := 0)
   (.inl (Nat.le_refl _)) m ((c.drop off).take len ++ ys) (grownCap w (len + news.length) cap e) hgm (by simp [Builtin.zeroCells, hzc, ol1]; omega) (by rw [List.length_append, ol4]; omega) (by
    intro j y hj
    have := append_get (rest := (Builtin.zeroCells zv.cells (grownCap w (len + news.length) cap e - (len + news.length))).toList) (by rw [ol1, ol4]) ol2 hnews src.one j y hj
    simpa [hwsH] using this)
  have h2 := h1.kill id
  refine wp_value hr2 (next _ _ _ (updL ι k ⟨w.heap.size, 0, grownCap w (len + news.length) cap e, 0, noInn⟩) hK2 ?_)
  rw [app_eq]
  have e1 : hwsH S.h [(id, .dead), (k, .live m ((c.drop off).take len ++ ys))] = updH (hwsH S.h ([] ++ [(k, .live m ((c.drop off).take len ++ ys))])) id .dead := upd_comm S.h hne _ _
  rw [e1]
  refine h2.put o.dst hd ?_ ?_
  ·simp only [RepA, updL, if_true]
   exact ⟨some ⟨w.heap.size, 0, none⟩, grownCap w (len + news.length) cap e, by rw [← hnl], by omega, by omega, hgm, .inr rfl⟩
  ·intro i hi
   simp [AV.has] at hi
   exact .inr ⟨by omega, by omega⟩
end
end Go.Gl
