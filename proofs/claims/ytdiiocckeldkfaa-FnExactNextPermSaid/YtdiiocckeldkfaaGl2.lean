/-
  A program logic over the walk's rules, second part: what an operation, a region, a piece of code comes to on plain values. Conditions: none; definitions alone.
-/
import Derived.Test.YtdiiocckeldkfaaGl1
namespace Go.Gl
open Go

/-- A value that arrives at number k: the nil slice becomes a block of the call's own. -/
def arr (k : Nat) (v : AV) (K : R → Prop) : Prop :=
  match v with
  | .p (.sl .own xs) => K ⟨.ref k 0 xs.length, [(k, .live false xs)], []⟩
  | v => K ⟨v, [], []⟩

def pickW (c a b : AV) (K : AV → Prop) : Prop :=
  match c with
  | .p (.bool t) => match a, b with
    | .p (.bool x), .p (.bool y) => K (.p (.bool (bif t then x else y)))
    | a, b => K (bif t then a else b)
  | _ => False

def lexLt : List UInt8 → List UInt8 → Bool
  | _, [] => false
  | [], _ :: _ => true
  | a :: x, b :: y => a < b || (a == b && lexLt x y)

def binW (P : Program) (op : BinOp) (t : TypeId) (x y : AV) (K : PV → Prop) : Prop :=
  match x, y with
  | .p (.int k a), .p (.int k' b) =>
    match op with
    | .add => k = k' ∧ inR k (a + b) ∧ K (.int k (a + b))
    | .sub => k = k' ∧ inR k (a - b) ∧ K (.int k (a - b))
    | .mul => k = k' ∧ inR k (a * b) ∧ K (.int k (a * b))
    | .quo => k = k' ∧ b ≠ 0 ∧ inR k (a.tdiv b) ∧ K (.int k (a.tdiv b))
    | .rem => k = k' ∧ b ≠ 0 ∧ K (.int k (a.tmod b))
    | .shl => 0 ≤ b ∧ b < k.bits ∧ inR k (a * 2 ^ b.toNat) ∧ K (.int k (a * 2 ^ b.toNat))
    | .shr => 0 ≤ b ∧ b < k.bits ∧ K (.int k (a.fdiv (2 ^ b.toNat)))
    | .and => k = k' ∧ 0 ≤ a ∧ 0 ≤ b ∧ inR k a ∧ inR k b ∧ K (.int k ((a.toNat &&& b.toNat : Nat) : Int))
    | .eql => k = k' ∧ K (.bool (decide (a = b)))
    | .neq => k = k' ∧ K (.bool (!decide (a = b)))
    | .lss => k = k' ∧ K (.bool (decide (a < b)))
    | .leq => k = k' ∧ K (.bool (decide (a ≤ b)))
    | .gtr => k = k' ∧ K (.bool (decide (b < a)))
    | .geq => k = k' ∧ K (.bool (decide (b ≤ a)))
    | _ => False
  | .p (.str a), .p (.str b) =>
    match op with
    | .add => a.length + b.length ≤ 2 ^ 60 ∧ K (.str (a ++ b))
    | .eql => K (.bool (decide (a = b)))
    | .neq => K (.bool (!decide (a = b)))
    | .lss => K (.bool (lexLt a b))
    | _ => False
  | .p (.bool a), .p (.bool b) =>
    match op with
    | .eql => boolT P t = true ∧ K (.bool (a == b))
    | .neq => boolT P t = true ∧ K (.bool (!(a == b)))
    | _ => False
  | _, _ => False

def unW (op : UnOp) (x : AV) (K : PV → Prop) : Prop :=
  match op, x with
  | .not, .p (.bool b) => K (.bool (!b))
  | .neg, .p (.int k a) => inR k (0 - a) ∧ K (.int k (0 - a))
  | _, _ => False

/-- A slice of bytes. -/
def u8T (P : Program) (t : TypeId) : Bool :=
  match P.underlying t with
  | some (.slice e) => match intT P e with
    | some .u8 => true
    | _ => false
  | _ => false

def convW (P : Program) (src dst : TypeId) (k : Nat) (h : Nat → Blk) (x : AV) (K : R → Prop) : Prop :=
  match x with
  | .p (.int _ n) => match intT P dst with
    | some kd => (P.underlying src).isSome = true ∧ inR kd n ∧ K ⟨.p (.int kd n), [], []⟩
    | none => False
  | .p (.str s) => strT P src = true ∧ if strT P dst then K ⟨x, [], []⟩ else
    (slT P dst).isSome = true ∧ u8T P dst = true ∧ s.length ≤ big ∧
      K ⟨.ref k 0 s.length, [(k, .live false (s.map fun b => .int .u8 b.toNat))], []⟩
  | x => strT P dst = true ∧ (slT P src).isSome = true ∧ u8T P src = true ∧ cont h x fun xs rd =>
      ∃ s : List UInt8, xs = s.map (fun b => PV.int .u8 b.toNat) ∧ K ⟨.p (.str s), [], rd⟩

def makeW (P : Program) (t : TypeId) (k : Nat) (l c : AV) (K : R → Prop) : Prop :=
  match l, c with
  | .p (.int _ a), .p (.int _ b) => 0 ≤ a ∧ a ≤ b ∧ b ≤ 1099511627776 ∧ (match slT P t with
    | some (_, z) => z.cellOk = true ∧ K ⟨.ref k 0 a.toNat, [(k, .live false (List.replicate a.toNat z))], []⟩
    | none => False)
  | _, _ => False

/-- The parts of a slice's literal, in order, none left out. -/
def partsOk (n : Nat) (parts : Array (Nat × Operand)) : Bool := parts.toList.map (·.1) == List.range n

def buildSliceW (P : Program) (t : TypeId) (n : Nat) (parts : Array (Nat × Operand)) (k : Nat) (ρ : Operand → AV) (h : Nat → Blk) (K : R → Prop) : Prop :=
  (slT P t).isSome = true ∧ partsOk n parts = true ∧ n ≤ 1000000 ∧ pubs h (parts.toList.map fun p => ρ p.2) fun xs ws rd =>
    K ⟨.ref k 0 n, ws ++ [(k, .live false xs)], rd⟩

/-- A bound of a slice expression. -/
def bnd (ρ : Operand → AV) (x : Option Operand) (d : Nat) (K : Int → Prop) : Prop :=
  match x with
  | none => K d
  | some o => match ρ o with
    | .p (.int _ i) => K i
    | _ => False

def sliceW (P : Program) (t : TypeId) (x : AV) (lo hi mx : Option Operand) (k : Nat) (ρ : Operand → AV) (K : R → Prop) : Prop :=
  match x with
  | .p (.str s) => mx = none ∧ strT P t = true ∧ bnd ρ hi s.length fun h => bnd ρ lo 0 fun l => 0 ≤ l ∧ l ≤ h ∧ h ≤ s.length ∧ K ⟨.p (.str ((s.take h.toNat).drop l.toNat)), [], []⟩
  | .p (.sl o xs) => (slT P t).isSome = true ∧ (match mx with
    | none => bnd ρ hi xs.length fun h => bnd ρ lo 0 fun l => 0 ≤ l ∧ l ≤ h ∧ h ≤ xs.length ∧ K ⟨.p (.sl o ((xs.take h.toNat).drop l.toNat)), [], []⟩
    | some _ => hi ≠ none ∧ bnd ρ mx 0 fun m => bnd ρ hi 0 fun h => bnd ρ lo 0 fun l => l = 0 ∧ h = 0 ∧ m = 0 ∧ K ⟨.ref k 0 0, [(k, .live false [])], []⟩)
  | .ref id off len => (slT P t).isSome = true ∧ (match mx with
    | none => bnd ρ hi len fun h => bnd ρ lo 0 fun l => 0 ≤ l ∧ l ≤ h ∧ h ≤ len ∧ K ⟨.ref id (off + l.toNat) (h.toNat - l.toNat), [], []⟩
    | some _ => hi ≠ none ∧ bnd ρ mx 0 fun m => bnd ρ hi 0 fun h => bnd ρ lo 0 fun l => l = 0 ∧ h = 0 ∧ m = 0 ∧ K ⟨.ref k 0 0, [(k, .live false [])], []⟩)
  | _ => False

def indexAddrW (P : Program) (t : TypeId) (x i : AV) (K : AV → Prop) : Prop :=
  match i with
  | .p (.int _ i) => match x with
    | .p (.sl _ xs) => (slT P t).isSome = true ∧ gt xs i fun x => K (.p (.pc [x]))
    | .ref id off len => (slT P t).isSome = true ∧ 0 ≤ i ∧ i < len ∧ K (.ptr id (off + i.toNat))
    | .ptr id off => (match arrT P t with | some n => 0 ≤ i ∧ i < n ∧ K (.ptr id (off + i.toNat)) | none => False)
    | _ => False
  | _ => False

def indexW (P : Program) (t : TypeId) (x i : AV) (K : AV → Prop) : Prop :=
  match i with
  | .p (.int _ i) => match x with
    | .p (.str s) => strT P t = true ∧ gt s i fun b => K (.p (.int .u8 b.toNat))
    | _ => False
  | _ => False

def loadW (P : Program) (t : TypeId) (h : Nat → Blk) (a : AV) (K : R → Prop) : Prop :=
  match szT P t with
  | some (n, false) => n = 1 ∧ (match a with
    | .p (.pc (x :: _)) => K ⟨.p x, [], []⟩
    | .ptr id off => match h id with
      | .live _ c => gt c off fun x => K ⟨.p x, [], [id]⟩
      | .froz _ c => gt c off fun x => K ⟨.p x, [], [id]⟩
      | .dead => False
    | _ => False)
  | some (n, true) => (match a with
    | .p (.pc xs) => n ≤ xs.length ∧ K ⟨.p (.agg (xs.take n)), [], []⟩
    | .ptr id off => match h id with
      | .live _ c => off + n ≤ c.length ∧ K ⟨.p (.agg ((c.drop off).take n)), [], [id]⟩
      | .froz _ c => off + n ≤ c.length ∧ K ⟨.p (.agg ((c.drop off).take n)), [], [id]⟩
      | .dead => False
    | _ => False)
  | none => False

/-- The cells of a value that is laid into memory. -/
def cellsW (h : Nat → Blk) (v : AV) (K : List PV → List (Nat × Blk) → List Nat → Prop) : Prop :=
  match v with
  | .p (.agg xs) => xs.all (fun x => x.cell.cellOk) = true ∧ K (xs.map PV.cell) [] []
  | .agg vs => pubs h vs K
  | v => pub h v fun x ws rd => K [x] ws rd

def storeW (P : Program) (t : TypeId) (h : Nat → Blk) (a v : AV) (K : R → Prop) : Prop :=
  match szT P t with
  | some (n, _) => (match a with
    | .ptr id off => match h id with
      | .live m c => cellsW h v fun xs ws rd => xs.length = n ∧ off + n ≤ c.length ∧ id ∉ rd ∧
          K ⟨.p .any, ws ++ [(id, .live m (c.take off ++ xs ++ c.drop (off + n)))], id :: rd⟩
      | _ => False
    | _ => False)
  | none => False

def allocW (P : Program) (t : TypeId) (k : Nat) (K : R → Prop) : Prop :=
  match zeroT P t with
  | some xs => xs ≠ [] ∧ xs.length ≤ 1000000 ∧ xs.all PV.cellOk = true ∧ K ⟨.ptr k 0, [(k, .live false xs)], []⟩
  | none => False

def boxW (h : Nat → Blk) (k : Nat) (v : AV) (K : R → Prop) : Prop :=
  cellsW h v fun xs ws rd => xs ≠ [] ∧ xs.length ≤ 1000000 ∧ K ⟨.ptr k 0, ws ++ [(k, .live false xs)], rd⟩

def AV.nth (xs : List AV) (i : Nat) (K : AV → Prop) : Prop := match xs[i]? with | some x => K x | none => False

def fieldW (P : Program) (t : TypeId) (f : Nat) (v : AV) (K : AV → Prop) : Prop :=
  match fldT P t f with
  | some (off, 1, false) => (match v with
    | .p (.agg xs) => gt xs off fun x => K (.p x)
    | .agg xs => AV.nth xs off K
    | _ => False)
  | _ => False

def fieldAddrW (P : Program) (t : TypeId) (f : Nat) (a : AV) (K : AV → Prop) : Prop :=
  match fldT P t f with
  | some (off, n, _) => n ≠ 0 ∧ (match a with
    | .p (.pc xs) => K (.p (.pc (xs.drop off)))
    | .ptr id o => K (.ptr id (o + off))
    | _ => False)
  | none => False

/-- The places of a struct's parts, each of one cell. -/
def placesT (P : Program) (t : TypeId) : Option (List Nat) :=
  match P.underlying t with
  | some (.struct fs) => fs.toList.mapM fun f => match szT P f.type with | some (1, _) => some f.offset | _ => none
  | _ => none
/-- It fills one cell. -/
def AV.one1 : AV → Prop
  | .p (.agg _) | .p .any | .agg _ | .tup _ => False
  | _ => True
def fillW (places : List Nat) (cells : List AV) : List (Nat × AV) → (List AV → Prop) → Prop
  | [], K => K cells
  | (i, v) :: rest, K => match places[i]? with
    | some o => o < cells.length ∧ v.one1 ∧ fillW places (cells.set o v) rest K
    | none => False
def buildW (P : Program) (t : TypeId) (parts : List (Nat × AV)) (K : AV → Prop) : Prop :=
  match placesT P t, zeroT P t with
  | some places, some zs => fillW places (zs.map .p) parts fun cs => K (.agg cs)
  | _, _ => False

def lenW (P : Program) (t : TypeId) (x : AV) (K : AV → Prop) : Prop :=
  match x with
  | .p (.str s) => strT P t = true ∧ K (.p (.int .i64 s.length))
  | .p (.sl _ xs) => (slT P t).isSome = true ∧ K (.p (.int .i64 xs.length))
  | .ref _ _ len => (slT P t).isSome = true ∧ K (.p (.int .i64 len))
  | _ => False

def appendW (P : Program) (t t' : TypeId) (h : Nat → Blk) (k : Nat) (s x : AV) (K : R → Prop) : Prop :=
  (slT P t).isSome = true ∧ ((slT P t').isSome = true ∨ strT P t' = true) ∧ cont h x fun ys rd => (match s with
  | .ref id off len => match h id with
    | .live m c => len + ys.length ≤ 1099511627776 ∧ off + len ≤ c.length ∧
        (if off + len = c.length then K ⟨.ref k 0 (len + ys.length), [(id, .dead), (k, .live m (c.drop off ++ ys))], id :: rd⟩
        else if off + len + ys.length ≤ c.length then K ⟨.ref k off (len + ys.length), [(id, .dead), (k, .live m (c.take (off + len) ++ ys ++ c.drop (off + len + ys.length)))], id :: rd⟩
        else K ⟨.ref k 0 (len + ys.length), [(id, .dead), (k, .live m ((c.drop off).take len ++ ys))], id :: rd⟩)
    | _ => False
  | .p (.sl .own []) => ys.length ≤ 1099511627776 ∧ K ⟨.ref k 0 ys.length, [(k, .live false ys)], rd⟩
  | _ => False)

def mmW (max : Bool) (x y : AV) (K : AV → Prop) : Prop :=
  match x, y with
  | .p (.int k a), .p (.int k' b) => k = k' ∧ K (.p (.int k (if max then (if a < b then b else a) else (if b < a then b else a))))
  | _, _ => False

/-- The arguments of a call: those that 'sg' marks are lent. -/
def pass (h : Nat → Blk) : List Bool → List AV → (List Arg → List Nat → List (Option Nat) → Prop) → Prop
  | _, [], K => K [] [] []
  | true :: sg, v :: vs, K => (match v with
    | .ref id 0 len => match h id with
      | .live _ c => len = c.length ∧ pass h sg vs fun as rd ms => K (.mu false c :: as) rd (some id :: ms)
      | _ => False
    | .ptr id 0 => match h id with
      | .live _ c => pass h sg vs fun as rd ms => K (.mu true c :: as) rd (some id :: ms)
      | _ => False
    | _ => False)
  | sg, v :: vs, K => pur h v fun x rd => pass h sg.tail vs fun as rd' ms => K (.pv x :: as) (rd ++ rd') (none :: ms)

def outB : Option (Option (List PV)) → Blk → Blk
  | some (some c), .live m _ => .live m c
  | _, _ => .dead
/-- What becomes of the blocks that were lent. -/
def outWs (h : Nat → Blk) (outs : List (Option (List PV))) : Nat → List (Option Nat) → List (Nat × Blk)
  | _, [] => []
  | j, none :: ms => outWs h outs (j + 1) ms
  | j, some id :: ms => (id, outB outs[j]? (h id)) :: outWs h outs (j + 1) ms

/-- No block lent twice, none lent and read. -/
def lentOk (ms : List (Option Nat)) (rd : List Nat) : Prop :=
  (ms.filterMap id).Nodup ∧ ∀ i ∈ ms.filterMap id, i ∉ rd

def callW (P : Program) (sg : FuncId → List Bool) (h : Nat → Blk) (k : Nat) (f : FuncId) (vs : List AV) (K : R → Prop) : Prop :=
  pass h (sg f) vs fun as rd ms => lentOk ms rd ∧ ∃ tk outs res, CallT P tk f as outs res ∧
    K ⟨impAll k res, outWs h outs 0 ms ++ impWs tk k res, ms.filterMap id ++ rd⟩

def opB (P : Program) (sg : FuncId → List Bool) (ρ : Operand → AV) (h : Nat → Blk) (k : Nat) (op : Op) (K : R → Prop) : Prop :=
  match op with
  | .move x => arr k (ρ x) K
  | .assign x => arr k (ρ x) K
  | .pick c a b => pickW (ρ c) (ρ a) (ρ b) fun v => arr k v K
  | .binOp op t x y _ => binW P op t (ρ x) (ρ y) fun v => K ⟨.p v, [], []⟩
  | .unOp op _ x => unW op (ρ x) fun v => K ⟨.p v, [], []⟩
  | .convert src dst x => convW P src dst k h (ρ x) K
  | .makeSlice t l c => makeW P t k (ρ l) (ρ c) K
  | .buildSlice t n parts => buildSliceW P t n parts k ρ h K
  | .slice t x lo hi mx => sliceW P t (ρ x) lo hi mx k ρ K
  | .indexAddr t x i => indexAddrW P t (ρ x) (ρ i) fun v => K ⟨v, [], []⟩
  | .index t x i => indexW P t (ρ x) (ρ i) fun v => K ⟨v, [], []⟩
  | .load t a => loadW P t h (ρ a) K
  | .store t a v => storeW P t h (ρ a) (ρ v) K
  | .alloc t => allocW P t k K
  | .box _ v => boxW h k (ρ v) K
  | .build t parts => buildW P t (parts.toList.map fun p => (p.1, ρ p.2)) fun v => K ⟨v, [], []⟩
  | .field t v f => fieldW P t f (ρ v) fun v => arr k v K
  | .fieldAddr t a f => fieldAddrW P t f (ρ a) fun v => K ⟨v, [], []⟩
  | .extract t i => (match ρ t with | .tup xs => AV.nth xs i fun v => arr k v K | _ => False)
  | .nilCheck x => (match ρ x with | .ptr id off => K ⟨.ptr id off, [], []⟩ | .p (.pc xs) => K ⟨.p (.pc xs), [], []⟩ | .p (.fn f a b) => K ⟨.p (.fn f a b), [], []⟩ | .fn f a b => K ⟨.fn f a b, [], []⟩ | _ => False)
  | .makeFunc (.func f) first caps => K ⟨.fn f (first.toList.map ρ) (caps.toList.map ρ), [], []⟩
  | .call { callee := .builtin .len, args := ⟨[x]⟩, argTypes := ⟨[t]⟩ } => lenW P t (ρ x) fun v => K ⟨v, [], []⟩
  | .call { callee := .builtin .append, args := ⟨[s, x]⟩, argTypes := ⟨[t, t']⟩ } => appendW P t t' h k (ρ s) (ρ x) K
  | .call { callee := .builtin .max, args := ⟨[x, y]⟩, .. } => mmW true (ρ x) (ρ y) fun v => K ⟨v, [], []⟩
  | .call { callee := .builtin .min, args := ⟨[x, y]⟩, .. } => mmW false (ρ x) (ρ y) fun v => K ⟨v, [], []⟩
  | .call { callee := .value f, args := ⟨args⟩, .. } => (match ρ f with
    | .p (.fn g first caps) => callW P sg h k g (first.map .p ++ args.map ρ ++ caps.map .p) K
    | .fn g first caps => callW P sg h k g (first ++ args.map ρ ++ caps) K
    | _ => False)
  | _ => False

/-- Sums, differences and products that may go round. -/
def binX (op : BinOp) (x y : AV) (K : PV → Prop) : Prop :=
  match x, y with
  | .p (.int k a), .p (.int k' b) =>
    match op with
    | .add => k = k' ∧ K (.int k (k.wrap (a + b)))
    | .sub => k = k' ∧ K (.int k (k.wrap (a - b)))
    | .mul => k = k' ∧ K (.int k (k.wrap (a * b)))
    | _ => False
  | _, _ => False

/-- A slice of a block of the call's own, beyond its length too; or one whose room is bounded (nothing is told of that). -/
def sliceX (P : Program) (t : TypeId) (x : AV) (lo hi mx : Option Operand) (h : Nat → Blk) (ρ : Operand → AV) (K : R → Prop) : Prop :=
  match x with
  | .ref id off len => match h id with
    | .live _ c => (slT P t).isSome = true ∧ off + len ≤ c.length ∧ (match mx with
      | none => bnd ρ hi len fun h => bnd ρ lo 0 fun l => 0 ≤ l ∧ l ≤ h ∧ off + h.toNat ≤ c.length ∧ K ⟨.ref id (off + l.toNat) (h.toNat - l.toNat), [], [id]⟩
      | some _ => hi ≠ none ∧ bnd ρ mx 0 fun m => bnd ρ hi 0 fun h => bnd ρ lo 0 fun l => 0 ≤ l ∧ l ≤ h ∧ h ≤ m ∧ m ≤ len ∧ K ⟨.p .any, [], [id]⟩)
    | _ => False
  | _ => False

/-- A slice's elements set to zero. -/
def clearW (P : Program) (t : TypeId) (h : Nat → Blk) (x : AV) (K : R → Prop) : Prop :=
  match x with
  | .ref id off len => match slT P t, h id with
    | some (_, z), .live m c => off + len ≤ c.length ∧ z.cellOk = true ∧ K ⟨.p .any, [(id, .live m (c.take off ++ List.replicate len z ++ c.drop (off + len)))], [id]⟩
    | _, _ => False
  | _ => False

/-- The wider ways, for a body that asks for them. -/
def opE (P : Program) (ρ : Operand → AV) (h : Nat → Blk) (op : Op) (K : R → Prop) : Prop :=
  match op with
  | .binOp op _ x y _ => binX op (ρ x) (ρ y) fun v => K ⟨.p v, [], []⟩
  | .slice t x lo hi mx => sliceX P t (ρ x) lo hi mx h ρ K
  | .call { callee := .builtin .clear, args := ⟨[x]⟩, argTypes := ⟨[t]⟩ } => clearW P t h (ρ x) K
  | _ => False
def isX : Op → Bool
  | .binOp .add .. | .binOp .sub .. | .binOp .mul .. | .slice .. => true
  | .call { callee := .builtin .clear, args := ⟨[_]⟩, argTypes := ⟨[_]⟩ } => true
  | _ => false
def wayE (sg : FuncId → List Bool) : Bool := !(sg 4294967296).isEmpty
def opW (P : Program) (sg : FuncId → List Bool) (ρ : Operand → AV) (h : Nat → Blk) (k : Nat) (op : Op) (K : R → Prop) : Prop :=
  if (wayE sg && isX op) = true then opE P ρ h op K else opB P sg ρ h k op K

/-- One operation in its place, its guard looked at. -/
def St.app (S : St) (d : Option Nat) (r : R) : St := (S.puto d r.v).hws r.ws

/-- A guard's value looked at (the empty tuple: what it asks was left out itself). -/
def gdW (v : AV) (want : Bool) (yes no : Prop) : Prop :=
  match v with
  | .p (.bool b) => (b = want → yes) ∧ (b ≠ want → no)
  | .tup [] => no
  | _ => False
def guardW (ops : Array Oper) (S : St) (o : Oper) (yes no : Prop) : Prop :=
  match o.guard with
  | none => yes
  | some (j, want) => match (ops[j]?).bind (·.dst) with
    | some d => gdW (S.e d) want yes no
    | none => False

/-- The number at which the i-th operation of a region lays what it makes. -/
def num (S0 i : Nat) : Nat := S0 + 256 * i

def opsW (P : Program) (sg : FuncId → List Bool) (ops : Array Oper) (n0 : Nat) : List Oper → Nat → St → (St → Prop) → Prop
  | [], _, S, K => K S
  | o :: os, i, S, K => guardW ops S o (opW P sg (opd S) S.h (num n0 i) o.op fun r => opsW P sg ops n0 os (i + 1) (S.app o.dst r) K) (opsW P sg ops n0 os (i + 1) (S.puto o.dst (.tup [])) K)

/-- The temporaries that an operation looks at. -/
def looks (ops : Array Oper) (o : Oper) : List Nat := o.looksAt ops

/-- 'j' comes behind 'i' in every order. -/
def behind (ops : Array Oper) : Nat → Nat → Nat → Bool
  | 0, _, _ => false
  | n + 1, i, j => match ops[j]? with
    | some o => o.after.any fun e => Region.binds .any e && e.on < j && (e.on == i || behind ops n i e.on)
    | none => false

/-- What was done by an operation of a region: the blocks it set, the blocks it looked at. -/
def clear (a b : List (Nat × Blk) × List Nat) : Prop :=
  ∀ p ∈ a.1, p.1 ∉ b.2 ∧ ∀ q ∈ b.1, p.1 ≠ q.1

def opsD (P : Program) (sg : FuncId → List Bool) (ops : Array Oper) (n0 : Nat) : List Oper → Nat → St → List (List (Nat × Blk) × List Nat) → (St → List (List (Nat × Blk) × List Nat) → Prop) → Prop
  | [], _, S, L, K => K S L
  | o :: os, i, S, L, K => guardW ops S o (opW P sg (opd S) S.h (num n0 i) o.op fun r => opsD P sg ops n0 os (i + 1) (S.app o.dst r) (L ++ [(r.ws, r.rd)]) K) (opsD P sg ops n0 os (i + 1) (S.puto o.dst (.tup [])) (L ++ [([], [])]) K)

/-- Two operations that may change places do not meet in a temporary. -/
def apartAll (ops : Array Oper) : Bool :=
  (List.range ops.size).all fun j => (List.range j).all fun i => behind ops ops.size i j || (match ops[i]?, ops[j]? with | some x, some y => x.apart ops y | _, _ => false)

def clearAll (ops : Array Oper) (L : List (List (Nat × Blk) × List Nat)) : Prop :=
  ∀ j, j < ops.size → ∀ i, i < j → behind ops ops.size i j = true ∨ (clear (L.getD i ([], [])) (L.getD j ([], [])) ∧ clear (L.getD j ([], [])) (L.getD i ([], [])))

/-- No operation writes a slot beyond the call's, none selects, and each edge leads back. -/
def regOk (nt : Nat) (ops : Array Oper) : Bool :=
  ops.toList.zipIdx.all fun (o, i) => (match o.dst with | some d => decide (d < nt) | none => true) && o.after.all (fun e => !Region.binds .any e || decide (e.on < i))

inductive Ex where
  | normal
  | exit (id : Nat)
  | ret

/-- What a piece of code comes to. -/
def wp (P : Program) (sg : FuncId → List Bool) (nt : Nat) : Code → (Ex → St → Prop) → St → Prop
  | .skip, Q, S => Q .normal S
  | .region _ ops false, Q, S => regOk nt ops = true ∧ opsW P sg ops S.n ops.toList 0 S fun S' => Q .normal (S'.nx (256 * ops.size))
  | .region _ ops true, Q, S => regOk nt ops = true ∧ apartAll ops = true ∧ opsD P sg ops S.n ops.toList 0 S [] fun S' L => clearAll ops L ∧ Q .normal (S'.nx (256 * ops.size))
  | .seq a b, Q, S => wp P sg nt a (fun ex S' => match ex with | .normal => wp P sg nt b Q S' | ex => Q ex S') S
  | .cond c a b, Q, S => match opd S c with
    | .p (.bool t) => (t = true → wp P sg nt a Q S) ∧ (t = false → wp P sg nt b Q S)
    | _ => False
  | .block id c, Q, S => wp P sg nt c (fun ex S' => match ex with | .exit j => if j = id then Q .normal S' else Q (.exit j) S' | ex => Q ex S') S
  | .loop c, Q, S => ∃ I : Nat → St → Prop, (∃ n, I n S) ∧ ∀ n S, I n S → wp P sg nt c (fun ex S' => match ex with | .normal => ∃ m, m < n ∧ I m S' | ex => Q ex S') S
  | .exit id, Q, S => Q (.exit id) S
  | .ret, Q, S => Q .ret S
  | _, _, _ => False

end Go.Gl
