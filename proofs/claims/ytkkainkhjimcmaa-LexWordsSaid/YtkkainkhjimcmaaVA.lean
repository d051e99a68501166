import Derived.Calls
/-
V: a deterministic machine over the translated code, with slices as lists, structs as rows of cells, objects in a small heap by index.
Definitions alone: the values, the state, the operations, the run.
-/
namespace Go.VM

/-- a plain value: one cell that owns nothing and leads to no variable -/
inductive PV where
  | int (k : IntKind) (n : Int)
  | bool (b : Bool)
  | str (s : List UInt8)
  | nils
  | ro (s : Nat) (es : List (List PV))
  deriving Inhabited

mutual
def PV.beq : PV → PV → Bool
  | .int k a, .int j b => k == j && a == b
  | .bool a, .bool b => a == b
  | .str a, .str b => a == b
  | .nils, .nils => true
  | .ro s x, .ro t y => s == t && PV.beqLL x y
  | _, _ => false
def PV.beqL : List PV → List PV → Bool
  | [], [] => true
  | a :: x, b :: y => PV.beq a b && PV.beqL x y
  | _, _ => false
def PV.beqLL : List (List PV) → List (List PV) → Bool
  | [], [] => true
  | a :: x, b :: y => PV.beqL a b && PV.beqLL x y
  | _, _ => false
end

inductive Root where
  | hp (i : Nat)
  | st (d k : Nat)
  | sl (k : Nat)
  deriving DecidableEq, Repr, Inhabited

/-- a cell of an object, or (row: element size, element, cell) a cell of an element of the slice that the cell owns -/
structure Place where
  root : Root
  off : Nat
  row : Option (Nat × Nat × Nat)
  deriving DecidableEq, Repr, Inhabited

inductive SV where
  | p (v : PV)
  | pagg (cs : List PV)
  | own (s : Nat) (es : List (List PV))
  | lent (s : Nat) (es : List (List PV))
  | al (pl : Place) (s lo n : Nat)
  | ptr (pl : Place)
  | cptr (cs : List PV)
  | nilp
  | fn (f : Nat) (caps : List SV)
  | nilf
  | agg (cs : List SV)
  | tup (vs : List SV)
  | undef
  deriving Inhabited

mutual
def SV.beq : SV → SV → Bool
  | .p a, .p b => PV.beq a b
  | .pagg a, .pagg b => PV.beqL a b
  | .own s a, .own t b => s == t && PV.beqLL a b
  | .lent s a, .lent t b => s == t && PV.beqLL a b
  | .al a s l n, .al b t k m => a == b && s == t && l == k && n == m
  | .ptr a, .ptr b => a == b
  | .cptr a, .cptr b => PV.beqL a b
  | .nilp, .nilp => true
  | .nilf, .nilf => true
  | .fn f a, .fn g b => f == g && SV.beqL a b
  | .agg a, .agg b => SV.beqL a b
  | .tup a, .tup b => SV.beqL a b
  | .undef, .undef => true
  | _, _ => false
def SV.beqL : List SV → List SV → Bool
  | [], [] => true
  | a :: x, b :: y => SV.beq a b && SV.beqL x y
  | _, _ => false
end

abbrev Obj := List SV

structure St where
  env : List (Nat × SV)
  fr : List (Nat × Obj)
  hp : List Obj
  out : List (List (Nat × Obj))
  deriving Inhabited

/-- from where on the heap's objects, and the frames, may be written -/
structure Ba where
  hb : Nat
  sb : Nat
  deriving Inhabited

def getD {α : Type} (d : α) : List (Nat × α) → Nat → α
  | [], _ => d
  | (j, v) :: r, k => if j = k then v else getD d r k
def put {α : Type} : List (Nat × α) → Nat → α → List (Nat × α)
  | [], k, v => [(k, v)]
  | (j, u) :: r, k, v => if j = k then (j, v) :: r else (j, u) :: put r k v

def sub {α : Type} (l : List α) (o n : Nat) : Option (List α) := if o + n ≤ l.length then some ((l.drop o).take n) else none
def splice {α : Type} (l : List α) (o : Nat) (vs : List α) : Option (List α) :=
  if o + vs.length ≤ l.length then some (l.take o ++ (vs ++ l.drop (o + vs.length))) else none

inductive Opd where
  | t (k : Nat)
  | c (v : SV)
  deriving Inhabited

inductive Cv where
  | int (k : IntKind) | same | s2b | b2s
  deriving DecidableEq, Inhabited

inductive Ck where
  | int | bool | str
  deriving DecidableEq, Inhabited

inductive Ek where
  | no | bool | ptr | slice | func | struct (ks : List Ck)
  deriving DecidableEq, Inhabited

inductive VOp where
  | mv (x : Opd)
  | asg (x : Opd)
  | pick (c a b : Opd)
  | alloc (heap : Bool) (zero : List PV)
  | allocO (heap : Bool) (zero : List SV)
  | box (heap : Bool) (sz : Nat) (x : Opd)
  | build (zero : List SV) (parts : List (Nat × Nat × Opd))
  | lit (s : Nat) (zero : List PV) (len : Nat) (parts : List (Nat × Opd))
  | load (sz : Option Nat) (a : Opd)
  | store (sz : Nat) (a x : Opd)
  | nilck (x : Opd)
  | bin (op : BinOp) (ek : Ek) (x y : Opd)
  | un (op : UnOp) (x : Opd)
  | conv (c : Cv) (x : Opd)
  | mkfn (f : Nat) (caps : List Opd)
  | make (s bytes : Nat) (zero : List PV) (len : Opd)
  | slc (str : Bool) (s : Nat) (x : Opd) (lo hi mx : Option Opd)
  | faddr (off : Nat) (x : Opd)
  | fld (off : Nat) (sz : Option Nat) (x : Opd)
  | iaddrS (s : Nat) (x i : Opd)
  | iaddrA (len s : Nat) (x i : Opd)
  | idxS (x i : Opd)
  | idxA (len s : Nat) (agg : Bool) (x i : Opd)
  | ext (x : Opd) (i : Nat)
  | call (f : Nat) (args : List Opd)
  | callv (g : Opd) (args : List Opd)
  | len (str : Bool) (x : Opd)
  | append (str : Bool) (s bytes : Nat) (x y : Opd)
  | mnmx (mx : Bool) (args : List Opd)
  deriving Inhabited

structure VOper where
  dst : Option Nat
  op : VOp
  after : List Nat
  guard : Option (Nat × Bool)
  deriving Inhabited

/-- in which order a region's operations are run where the order is open -/
inductive OT where
  | fin
  | one (i : Nat) (t : OT)
  | alt (i : Nat) (t r : OT)
  deriving Inhabited

inductive VCode where
  | skip
  | region (draw : Option (List Nat × OT)) (ops : List VOper) (keep boxes : List Nat)
  | seq (a b : VCode)
  | cond (c : Opd) (a b : VCode)
  | block (id : Nat) (b : VCode)
  | loop (b : VCode)
  | exit (id : Nat)
  | ret
  | stuck
  deriving Inhabited

inductive Res where
  | t (k : Nat)
  | cell (k : Nat) (sz : Option Nat)
  deriving Inhabited

structure VFun where
  vars : List Nat
  boxes : List Nat
  mv : List Nat
  res : List Res
  body : VCode
  deriving Inhabited

inductive Prim where
  | q (F : List SV → Option SV)
  | con (s : Nat) (F : List (List PV) → List SV → Option (List (List PV)))

structure Tab where
  fns : Nat → Option VFun
  ro : Nat → Bool
  prim : Nat → Option Prim
  mv : Nat → List Nat := fun _ => []

/-! ### cells and places -/

def SV.cells : SV → List SV
  | .pagg cs => cs.map .p
  | .agg cs => cs
  | v => [v]

def plains : List SV → Option (List PV)
  | [] => some []
  | .p v :: r => (plains r).map (v :: ·)
  | _ => none

def ofCells (cs : List SV) : SV :=
  match plains cs with
  | some l => .pagg l
  | none => .agg cs

def St.obj (σ : St) : Root → Option Obj
  | .hp i => σ.hp[i]?
  | .st d k => if d = σ.out.length then some (getD [] σ.fr k) else (σ.out[d]?).map (getD [] · k)
  | .sl k => some (match getD .undef σ.env k with | .agg cs => cs | v => [v])

def isSl : Root → Bool
  | .sl _ => true
  | _ => false

def rdCells (σ : St) (pl : Place) (n : Nat) : Option (List SV) :=
  (σ.obj pl.root).bind fun cs =>
    match pl.row with
    | none => if isSl pl.root then none else sub cs pl.off n
    | some (s, i, o) =>
      match cs[pl.off]? with
      | some (.own t es) => if s = t then (es[i]?).bind fun e => (sub e o n).map (·.map .p) else none
      | _ => none

def rdOwn (σ : St) (pl : Place) : Option (Nat × List (List PV)) :=
  match pl.row with
  | none => (σ.obj pl.root).bind fun cs =>
    match cs[pl.off]? with
    | some (.own s es) => some (s, es)
    | _ => none
  | some _ => none

def St.setObj (σ : St) (r : Root) (o : Obj) : Option St :=
  match r with
  | .hp i => some { σ with hp := σ.hp.set i o }
  | .st d k =>
    if d = σ.out.length then some { σ with fr := put σ.fr k o }
    else (σ.out[d]?).map fun f => { σ with out := σ.out.set d (put f k o) }
  | .sl k => match o with
    | [v] => some { σ with env := put σ.env k v }
    | _ => none

def writable (ba : Ba) : Root → Bool
  | .hp i => ba.hb ≤ i
  | .st d _ => ba.sb ≤ d
  | .sl _ => true

def wrCells (ba : Ba) (σ : St) (pl : Place) (vs : List SV) : Option St :=
  if writable ba pl.root then
    (σ.obj pl.root).bind fun cs =>
      match pl.row with
      | none => (splice cs pl.off vs).bind (σ.setObj pl.root)
      | some (s, i, o) =>
        match cs[pl.off]?, plains vs with
        | some (.own t es), some ps => if s = t then (es[i]?).bind fun e => (splice e o ps).bind fun e' => σ.setObj pl.root (cs.set pl.off (.own t (es.set i e'))) else none
        | _, _ => none
  else none

/-! ### aliases that fall -/

def isUndef : SV → Bool
  | .undef => true
  | _ => false

mutual
def kill (r : Root) : SV → SV
  | .al pl s lo n => if pl.root = r then .undef else .al pl s lo n
  | .ptr pl => if pl.root = r ∧ pl.row.isSome then .undef else .ptr pl
  | .fn f caps => .fn f (killL r caps)
  | .agg cs => .agg (killL r cs)
  | .tup cs => .tup (killL r cs)
  | v => v
def killL (r : Root) : List SV → List SV
  | [] => []
  | v :: l => kill r v :: killL r l
end
mutual
def killMem : SV → SV
  | .al pl s lo n => match pl.root with | .sl _ => .al pl s lo n | _ => .undef
  | .ptr pl => match pl.root, pl.row with | .sl _, _ => .ptr pl | _, none => .ptr pl | _, some _ => .undef
  | .fn f caps => .fn f (killMemL caps)
  | .agg cs => .agg (killMemL cs)
  | .tup cs => .tup (killMemL cs)
  | v => v
def killMemL : List SV → List SV
  | [] => []
  | v :: l => killMem v :: killMemL l
end
-- what leads to a box that is made anew
mutual
def killBox (d k : Nat) : SV → SV
  | .al pl s lo n => if pl.root = .st d k then .undef else .al pl s lo n
  | .ptr pl => if pl.root = .st d k then .undef else .ptr pl
  | .fn f caps => if (killBoxL d k caps).any isUndef then .undef else .fn f (killBoxL d k caps)
  | .agg cs => .agg (killBoxL d k cs)
  | .tup cs => .tup (killBoxL d k cs)
  | v => v
def killBoxL (d k : Nat) : List SV → List SV
  | [] => []
  | v :: l => killBox d k v :: killBoxL d k l
end
def mapE (f : SV → SV) : List (Nat × SV) → List (Nat × SV)
  | [] => []
  | (k, v) :: r => (k, f v) :: mapE f r
def mapB (f : SV → SV) : List (Nat × Obj) → List (Nat × Obj)
  | [] => []
  | (k, v) :: r => (k, v.map f) :: mapB f r

def isOwn : SV → Bool
  | .own _ _ => true
  | _ => false

/-- what a slot that owned a slice gets: a part of that very slice, or something else -/
def regain (k s : Nat) (es : List (List PV)) (v : SV) : SV :=
  match v with
  | .al ⟨.sl j, 0, none⟩ t lo n => if j = k ∧ t = s then .own s ((es.drop lo).take n) else kill (.sl k) v
  | v => kill (.sl k) v

/-- a slot gets a value: what led into what it owned falls -/
def putv (σ : St) (dst : Option Nat) (v : SV) : St :=
  match dst with
  | none => σ
  | some k =>
    match getD .undef σ.env k with
    | .own s es => { σ with env := put (mapE (kill (.sl k)) σ.env) k (regain k s es v) }
    | _ => { σ with env := put σ.env k v }

/-- a slot is emptied -/
def clear (σ : St) (k : Nat) : St := { σ with env := put (mapE (kill (.sl k)) σ.env) k .undef }

/-! ### reading -/

def rd (σ : St) : Opd → SV
  | .t k => match getD .undef σ.env k with
    | .own s es => .al ⟨.sl k, 0, none⟩ s 0 es.length
    | v => v
  | .c v => v

def rowsOf (σ : St) : SV → Option (List (List PV))
  | .p .nils => some []
  | .p (.ro _ es) => some es
  | .lent _ es => some es
  | .al pl s lo n => (rdOwn σ pl).bind fun x => if x.1 = s then sub x.2 lo n else none
  | _ => none

def lenOf (str : Bool) (v : SV) : Option Nat :=
  match str, v with
  | true, .p (.str s) => some s.length
  | false, .p .nils => some 0
  | false, .p (.ro _ es) => some es.length
  | false, .lent _ es => some es.length
  | false, .al _ _ _ n => some n
  | _, _ => none

def aliasC (pl : Place) : Nat → List SV → List SV
  | _, [] => []
  | j, .own s es :: r => .al { pl with off := pl.off + j } s 0 es.length :: aliasC pl (j + 1) r
  | j, c :: r => c :: aliasC pl (j + 1) r

def natOf (v : SV) : Option Nat :=
  match v with
  | .p (.int _ n) => if 0 ≤ n then some n.toNat else none
  | _ => none

/-! ### numbers, bools, strings -/

def intOp (op : BinOp) (k : IntKind) (a b : Int) : Option PV :=
  match op with
  | .add => some (.int k (k.wrap (a + b)))
  | .sub => some (.int k (k.wrap (a - b)))
  | .mul => some (.int k (k.wrap (a * b)))
  | .quo => if b = 0 then none else some (.int k (k.wrap (a.tdiv b)))
  | .rem => if b = 0 then none else some (.int k (a.tmod b))
  | .and => some (.int k (k.wrap (BitVec.ofInt k.bits a &&& BitVec.ofInt k.bits b).toNat))
  | .or => some (.int k (k.wrap (BitVec.ofInt k.bits a ||| BitVec.ofInt k.bits b).toNat))
  | .xor => some (.int k (k.wrap (BitVec.ofInt k.bits a ^^^ BitVec.ofInt k.bits b).toNat))
  | .andNot => some (.int k (k.wrap (BitVec.ofInt k.bits a &&& ~~~ BitVec.ofInt k.bits b).toNat))
  | .eql => some (.bool (a == b))
  | .neq => some (.bool (a != b))
  | .lss => some (.bool (decide (a < b)))
  | .leq => some (.bool (decide (a ≤ b)))
  | .gtr => some (.bool (decide (a > b)))
  | .geq => some (.bool (decide (a ≥ b)))
  | _ => none

def shiftOp (op : BinOp) (k : IntKind) (a y : Int) : Option PV :=
  if y < 0 then none
  else match op with
    | .shl => some (.int k (k.wrap (a * 2 ^ min y.toNat k.bits)))
    | .shr => some (.int k (a.fdiv (2 ^ min y.toNat k.bits)))
    | _ => none

def strOp (op : BinOp) (a b : List UInt8) : Option PV :=
  match op with
  | .add => if a.length + b.length ≤ 9223372036854775807 then some (.str (a ++ b)) else none
  | .eql => some (.bool (a == b))
  | .neq => some (.bool (!(a == b)))
  | .lss => some (.bool (Op.bytesLess a b))
  | .leq => some (.bool (Op.bytesLess a b || a == b))
  | .gtr => some (.bool (!(Op.bytesLess a b || a == b)))
  | .geq => some (.bool (!(Op.bytesLess a b)))
  | _ => none

def isShift : BinOp → Bool
  | .shl | .shr => true
  | _ => false

def eqOp (op : BinOp) (b : Bool) : Option SV :=
  match op with
  | .eql => some (.p (.bool b))
  | .neq => some (.p (.bool (!b)))
  | _ => none

def isSlice : SV → Bool
  | .p (.ro _ _) | .lent _ _ | .al _ _ _ _ => true
  | _ => false

/-- '==' of cells: up to the first two that are unlike -/
def eq1 : Ck → PV → PV → Option Bool
  | .int, .int k a, .int j b => if k = j then some (a == b) else none
  | .bool, .bool a, .bool b => some (a == b)
  | .str, .str a, .str b => some (a == b)
  | _, _, _ => none
def eqC : List Ck → List PV → List PV → Option Bool
  | [], [], [] => some true
  | k :: ks, a :: x, b :: y => (eq1 k a b).bind fun r => if r then eqC ks x y else some false
  | _, _, _ => none
def eqL (ks : List Ck) (a b : List PV) : Option Bool := if a.length = ks.length ∧ b.length = ks.length then eqC ks a b else none

def binv (op : BinOp) (ek : Ek) (x y : SV) : Option SV :=
  match x, y with
  | .p (.int k a), .p (.int j b) => if isShift op then (shiftOp op k a b).map .p else if k = j then (intOp op k a b).map .p else none
  | .p (.str a), .p (.str b) => (strOp op a b).map .p
  | x, y =>
    match ek, x, y with
    | .bool, .p (.bool a), .p (.bool b) => eqOp op (a == b)
    | .struct ks, .pagg a, .pagg b => (eqL ks a b).bind (eqOp op)
    | .ptr, .nilp, .nilp => eqOp op true
    | .ptr, .ptr _, .nilp | .ptr, .nilp, .ptr _ | .ptr, .cptr _, .nilp | .ptr, .nilp, .cptr _ => eqOp op false
    | .func, .nilf, .nilf => eqOp op true
    | .func, .fn _ _, .nilf | .func, .nilf, .fn _ _ => eqOp op false
    | .slice, .p .nils, .p .nils => eqOp op true
    | .slice, .p .nils, y => if isSlice y then eqOp op false else none
    | .slice, x, .p .nils => if isSlice x then eqOp op false else none
    | _, _, _ => none

def unv (op : UnOp) (x : SV) : Option SV :=
  match op, x with
  | .neg, .p (.int k n) => some (.p (.int k (k.wrap (0 - n))))
  | .xor, .p (.int k n) => (intOp .xor k (if k.signed then -1 else k.max) n).map .p
  | .not, .p (.bool b) => some (.p (.bool (!b)))
  | _, _ => none

def bytesOf : List (List PV) → Option (List UInt8)
  | [] => some []
  | [.int .u8 n] :: r => (bytesOf r).map (UInt8.ofNat n.toNat :: ·)
  | _ => none

def byteRows (l : List UInt8) : List (List PV) := l.map fun c => [.int .u8 c.toNat]

def convv (σ : St) (c : Cv) (x : SV) : Option SV :=
  match c, x with
  | .int k, .p (.int _ n) => some (.p (.int k (k.wrap n)))
  | .same, .p (.str s) => some (.p (.str s))
  | .s2b, .p (.str s) => if s.length ≤ 140737488355328 then some (.own 1 (byteRows s)) else none
  | .b2s, x => (rowsOf σ x).bind fun r => (bytesOf r).map fun l => .p (.str l)
  | _, _ => none

/-- bounds of a slice expression over n things -/
def bounds (n : Nat) (lo hi : Option SV) : Option (Nat × Nat) :=
  (match hi with | none => some n | some v => natOf v).bind fun h =>
  (match lo with | none => some 0 | some v => natOf v).bind fun l =>
  if l ≤ h ∧ h ≤ n then some (l, h) else none

/-- whose address is known to be a plain one -/
def isSliceN : SV → Bool
  | .p (.ro _ es) => !es.isEmpty
  | .lent _ _ | .al _ _ _ _ => true
  | _ => false
def slcv (str : Bool) (sz : Nat) (x : SV) (lo hi mx : Option SV) : Option SV :=
  if str then
    match mx, x with
    | none, .p (.str s) => (bounds s.length lo hi).map fun b => .p (.str ((s.take b.2).drop b.1))
    | _, _ => none
  else match mx with
  | none =>
    match x with
    | .p .nils => (bounds 0 lo hi).map fun _ => .p .nils
    | .p (.ro s es) => if s = sz then (bounds es.length lo hi).map fun b => .p (.ro s ((es.take b.2).drop b.1)) else none
    | .lent s es => if s = sz then (bounds es.length lo hi).map fun b => .lent s ((es.take b.2).drop b.1) else none
    | .al pl s l n => if s = sz then (bounds n lo hi).map fun b => .al pl s (l + b.1) (b.2 - b.1) else none
    | _ => none
  | some m =>   -- x[0:0:0] alone
    if hi.isNone then none else match natOf m, x with
    | some 0, .p .nils => (bounds 0 lo hi).map fun _ => .p .nils
    | some 0, x => if isSliceN x then (bounds 0 lo hi).map fun _ => .own sz [] else none
    | _, _ => none

def shiftP (pl : Place) (n : Nat) : Place :=
  match pl.row with
  | none => { pl with off := pl.off + n }
  | some (s, i, o) => { pl with row := some (s, i, o + n) }

def faddrv (off : Nat) : SV → Option SV
  | .ptr pl => some (.ptr (shiftP pl off))
  | .cptr cs => some (.cptr (cs.drop off))
  | _ => none

def iaddrv (s : Nat) (x i : SV) : Option SV :=
  (natOf i).bind fun i =>
  match x with
  | .p (.ro t es) => if t = s then (es[i]?).map .cptr else none
  | .lent t es => if t = s then (es[i]?).map .cptr else none
  | .al pl t lo n => if t = s ∧ i < n ∧ pl.row = none then some (.ptr { pl with row := some (s, lo + i, 0) }) else none
  | _ => none

def iaddrAv (len s : Nat) (x i : SV) : Option SV :=
  (natOf i).bind fun i => if i < len then faddrv (i * s) x else none

def loadv (σ : St) (sz : Option Nat) (a : SV) : Option SV :=
  match a with
  | .ptr pl =>
    match sz with
    | none => (rdCells σ pl 1).bind fun cs => (aliasC pl 0 cs).head?
    | some n => (rdCells σ pl n).map fun cs => ofCells (aliasC pl 0 cs)
  | .cptr cs =>
    match sz with
    | none => cs.head?.map .p
    | some n => (sub cs 0 n).map .pagg
  | _ => none

def nilckv : SV → Option SV
  | .ptr pl => some (.ptr pl)
  | .cptr c => some (.cptr c)
  | .fn f c => some (.fn f c)
  | _ => none

def cellv : SV → Option SV
  | .own _ _ => none
  | .agg _ => none
  | .tup _ => none
  | v => some v

def fldv (off : Nat) (sz : Option Nat) (x : SV) : Option SV :=
  match x with
  | .pagg cs =>
    match sz with
    | none => (cs[off]?).map .p
    | some n => (sub cs off n).map .pagg
  | .agg cs =>
    match sz with
    | none => (cs[off]?).bind cellv
    | some n => (sub cs off n).bind fun l => (plains l).map .pagg
  | _ => none

def extv (x : SV) (i : Nat) : Option SV :=
  match x with
  | .tup vs => (vs[i]?).bind cellv
  | _ => none

mutual
def owns : SV → Bool
  | .own _ _ => true
  | .agg cs => ownsL cs
  | .tup cs => ownsL cs
  | _ => false
def ownsL : List SV → Bool
  | [] => false
  | v :: r => owns v || ownsL r
end

def mnmxR (mx : Bool) (k : IntKind) : Int → List SV → Option SV
  | a, [] => some (.p (.int k a))
  | a, .p (.int _ b) :: r => mnmxR mx k (if mx then (if b > a then b else a) else (if b < a then b else a)) r
  | _, _ => none
def mnmxv (mx : Bool) : List SV → Option SV
  | .p (.int k a) :: r => mnmxR mx k a r
  | _ => none

def fillP (zero : List SV) : List (Nat × Nat × SV) → Option (List SV)
  | [] => some zero
  | (off, n, v) :: r => if v.cells.length = n ∧ isUndef v = false then (splice zero off v.cells).bind (fillP · r) else none

def buildv (zero : List SV) (parts : List (Nat × Nat × SV)) : Option SV := (fillP zero parts).map ofCells

def fillL (s : Nat) (rows : List (List PV)) : List (Nat × SV) → Option (List (List PV))
  | [] => some rows
  | (i, v) :: r => (plains v.cells).bind fun c => if c.length = s ∧ i < rows.length then fillL s (rows.set i c) r else none

/-! ### arguments, results -/

/-- an own slice in a slot becomes one for all to read: cells -/
def freezeC : List SV → List SV
  | [] => []
  | .own s es :: r => .p (.ro s es) :: freezeC r
  | c :: r => c :: freezeC r

/-- what may lie in an object's cell -/
def okMem : SV → Bool
  | .p _ => true
  | .own _ _ => true
  | .lent _ _ => true
  | .ptr pl => pl.row.isNone && !isSl pl.root
  | .nilp => true
  | .fn _ caps => okCaps caps
  | .nilf => true
  | .undef => true
  | _ => false
where okCaps : List SV → Bool
  | [] => true
  | .ptr pl :: r => pl.row.isNone && !isSl pl.root && okCaps r
  | _ => false

-- may it be handed back by a call that began with hb objects and at depth d?
mutual
def okRet (hb d : Nat) : SV → Bool
  | .p _ => true
  | .pagg _ => true
  | .own _ _ => true
  | .ptr pl => pl.row.isNone && (match pl.root with | .hp i => decide (i < hb) | .st e _ => decide (e < d) | .sl _ => false)
  | .nilp => true
  | .fn _ caps => okMem.okCaps caps && okRetL hb d caps
  | .nilf => true
  | .agg cs => okRetL hb d cs
  | .tup cs => okRetL hb d cs
  | .al pl _ _ _ => pl.row.isNone && (match pl.root with | .hp i => decide (i < hb) | .st e _ => decide (e < d) | .sl _ => false)
  | _ => false
def okRetL (hb d : Nat) : List SV → Bool
  | [] => true
  | v :: r => okRet hb d v && okRetL hb d r
end

/-- may a cell be stored: into the heap, into a box -/
def okCell (heap : Bool) (d : Nat) : SV → Bool
  | .p _ => true
  | .own _ _ => true
  | .ptr pl => pl.row.isNone && (match pl.root with | .hp _ => true | .st e _ => !heap && decide (e ≤ d) | .sl _ => false)
  | .nilp => true
  | .nilf => true
  | .fn _ caps => okCaps heap d caps
  | .lent _ _ => false
  | _ => false
where okCaps (heap : Bool) (d : Nat) : List SV → Bool
  | [] => true
  | .ptr pl :: r => pl.row.isNone && (match pl.root with | .hp _ => true | .st e _ => !heap && decide (e ≤ d) | .sl _ => false) && okCaps heap d r
  | _ => false

/-- may it lie in a cell of this object? -/
def okAt (r : Root) (v : SV) : Bool :=
  match v with
  | .undef => true
  | v => match r with
    | .hp _ => okCell true 0 v
    | .st d _ => okCell false d v
    | .sl _ => false

def argRo (σ : St) (v : SV) : Option SV :=
  match v with
  | .al pl s lo n => (rdOwn σ pl).bind fun x => if x.1 = s then (sub x.2 lo n).map (.lent s) else none
  | .ptr pl => match pl.root with | .sl _ => none | _ => some v
  | .fn _ caps => if okMem.okCaps caps then some v else none
  | .own _ _ => none
  | .agg _ => none
  | .tup _ => none
  | v => some v

def argW (σ : St) (v : SV) : Option SV :=
  match v with
  | .al pl s lo n => match pl.root with
    | .sl _ => (rdOwn σ pl).bind fun x => if x.1 = s then (sub x.2 lo n).map (.lent s) else none
    | _ => some v
  | .ptr pl => match pl.root with | .sl _ => none | _ => some v
  | .fn _ caps => if okMem.okCaps caps then some v else none
  | .own _ _ => none
  | .agg _ => none
  | .tup _ => none
  | v => some v

/-! ### operations that only read -/

/-- what a slot holds is taken out of it, to lie elsewhere -/
def take (σ : St) : Opd → SV
  | .t k => getD .undef σ.env k
  | .c v => v

def qev (callq : Nat → List SV → Option SV) (σ : St) (op : VOp) : Option SV :=
  match op with
  | .mv x => let v := rd σ x; if owns v then none else some v
  | .asg x => if owns (take σ x) then none else some (take σ x)
  | .pick c a b => match rd σ c with
    | .p (.bool true) => let v := rd σ a; if owns v then none else some v
    | .p (.bool false) => let v := rd σ b; if owns v then none else some v
    | _ => none
  | .build zero parts => (buildv zero (parts.map fun x => (x.1, x.2.1, rd σ x.2.2))).bind fun v => match v with | .pagg c => some (.pagg c) | _ => none
  | .lit s zero len parts => (fillL s (List.replicate len zero) (parts.map fun x => (x.1, rd σ x.2))).map (.own s)
  | .load sz a => loadv σ sz (rd σ a)
  | .nilck x => nilckv (rd σ x)
  | .bin op ek x y => binv op ek (rd σ x) (rd σ y)
  | .un op x => unv op (rd σ x)
  | .conv c x => convv σ c (rd σ x)
  | .mkfn f caps => if okMem.okCaps (caps.map (rd σ)) then some (.fn f (caps.map (rd σ))) else none
  | .make s bytes zero len => (natOf (rd σ len)).bind fun n => if n * bytes ≤ 140737488355328 ∧ n ≤ 140737488355328 then some (.own s (List.replicate n zero)) else none
  | .slc str s x lo hi mx => slcv str s (rd σ x) (lo.map (rd σ)) (hi.map (rd σ)) (mx.map (rd σ))
  | .faddr off x => faddrv off (rd σ x)
  | .fld off sz x => fldv off sz (rd σ x)
  | .iaddrS s x i => iaddrv s (rd σ x) (rd σ i)
  | .iaddrA n s x i => iaddrAv n s (rd σ x) (rd σ i)
  | .idxS x i => match rd σ x with
    | .p (.str s) => (natOf (rd σ i)).bind fun i => (s[i]?).map fun c => .p (.int .u8 c.toNat)
    | _ => none
  | .idxA n s agg x i => (natOf (rd σ i)).bind fun i => if i < n then fldv (i * s) (if agg then some s else none) (rd σ x) else none
  | .ext x i => extv (rd σ x) i
  | .len str x => (lenOf str (rd σ x)).map fun (n : Nat) => SV.p (.int .i64 (n : Int))
  | .mnmx mx args => mnmxv mx (args.map (rd σ))
  | .call f args => (args.mapM fun x => argRo σ (rd σ x)).bind (callq f)
  | .callv g args => match rd σ g with
    | .fn f caps => if okMem.okCaps caps then (args.mapM fun x => argRo σ (rd σ x)).bind fun l => callq f (l ++ caps) else none
    | _ => none
  | _ => none

/-! ### operations that change -/

/-- the slot's own slices behind it: what became of the slot -/
def leave (σ : St) (x : Opd) (v : SV) : St :=
  match x with
  | .t k => if owns (getD .undef σ.env k) then { σ with env := put (mapE (kill (.sl k)) σ.env) k v } else σ
  | .c _ => σ

def freezeV : SV → SV
  | .own s es => .p (.ro s es)
  | .agg cs => ofCells (freezeC cs)
  | v => v

def hasOwn : List SV → Bool
  | [] => false
  | .own _ _ :: _ => true
  | _ :: r => hasOwn r

/-- the alias of what a slot's own slice became, in its new place -/
def moved (pl : Place) : SV → SV
  | .own s es => if es.isEmpty then .p (.ro s []) else .al pl s 0 es.length
  | _ => .undef

/-- the same, where it is for all to read from now on -/
def thawed (v : SV) : SV :=
  match plains (freezeV v).cells with
  | some _ => freezeV v
  | none => .undef

/-- the operand that a store, a box takes: what lies in a slot as its own, or is an alias of a whole slot's own, is taken out of that slot -/
def source (σ : St) (x : Opd) : Opd :=
  match x with
  | .t k => match getD .undef σ.env k with
    | .al ⟨.sl j, 0, none⟩ _ 0 n => match getD .undef σ.env j with
      | .own _ es => if es.length = n then .t j else x
      | _ => x
    | _ => x
  | .c v => .c v

-- what looked at cells that are written over
mutual
def killAt (r : Root) (off n : Nat) : SV → SV
  | .al pl s lo m => if pl.root = r ∧ off ≤ pl.off ∧ pl.off < off + n then .undef else .al pl s lo m
  | .ptr pl => if pl.row.isSome ∧ pl.root = r ∧ off ≤ pl.off ∧ pl.off < off + n then .undef else .ptr pl
  | .fn f caps => .fn f (killAtL r off n caps)
  | .agg cs => .agg (killAtL r off n cs)
  | .tup cs => .tup (killAtL r off n cs)
  | v => v
def killAtL (r : Root) (off n : Nat) : List SV → List SV
  | [] => []
  | v :: l => killAt r off n v :: killAtL r off n l
end

/-- an alias of a cell that is written over: who takes the slice -/
def rescue (pl : Place) : List (Nat × SV) → Option Nat
  | [] => none
  | (k, .al q _ _ _) :: r => if q = pl then some k else rescue pl r
  | _ :: r => rescue pl r

/-- a cell that holds no slice -/
def scalarS : SV → Bool
  | .p (.int _ _) => true
  | .p (.bool _) => true
  | .p (.str _) => true
  | .ptr _ => true
  | .nilp => true
  | .fn _ _ => true
  | .nilf => true
  | _ => false

/-- what is stored where a slice lay that is somebody's own: who looked at it keeps it -/
def overwrite (σ : St) (pl : Place) (old : List SV) : List (Nat × SV) :=
  if pl.row.isSome then σ.env
  else if old.all scalarS then σ.env
  else match old with
    | [.own s es] =>
      match rescue pl σ.env with
      | some k => match getD .undef σ.env k with
        | .al q t lo n => if q = pl ∧ t = s ∧ lo + n ≤ es.length then put (mapE (killAt pl.root pl.off 1) σ.env) k (.own s ((es.drop lo).take n)) else mapE (killAt pl.root pl.off 1) σ.env
        | _ => mapE (killAt pl.root pl.off 1) σ.env
      | none => mapE (killAt pl.root pl.off 1) σ.env
    | _ => mapE (killAt pl.root pl.off old.length) σ.env

def depthOf (σ : St) : Root → Nat
  | .st d _ => d
  | _ => σ.out.length

def isHeap : Root → Bool
  | .hp _ => true
  | _ => false

def storev (ba : Ba) (σ : St) (sz : Nat) (pl : Place) (x0 : Opd) : Option St :=
  let x := source σ x0
  let v := take σ x
  let cs := v.cells
  if cs.length ≠ sz ∨ sz = 0 then none else
  (σ.obj pl.root).bind fun ob =>
  (rdCells σ pl sz).bind fun old =>
  let frz := pl.row.isSome || (!isHeap pl.root && ob.length ≠ 1)
  let cs' := if frz then freezeC cs else cs
  if isUndef v = false ∧ (pl.row.isSome || cs'.all fun c => okAt pl.root c && !isUndef c) = true then
    let σ0 := leave σ x .undef
    let σ1 := { σ0 with env := overwrite σ0 pl old }
    (wrCells ba σ1 pl cs').map fun (σ2 : St) =>
      match x with
      | .t k => if owns v then { σ2 with env := put σ2.env k (if frz then thawed v else moved pl v) } else σ2
      | .c _ => σ2
  else none

def newBox (σ : St) (heap : Bool) (dst : Option Nat) (ob : Obj) : Option (SV × St) :=
  if heap then some (.ptr ⟨.hp σ.hp.length, 0, none⟩, { σ with hp := σ.hp ++ [ob] })
  else dst.map fun k =>
    (.ptr ⟨.st σ.out.length k, 0, none⟩,
     { σ with env := mapE (killBox σ.out.length k) σ.env, fr := put (mapB (killBox σ.out.length k) σ.fr) k (ob.map (killBox σ.out.length k)) })

def appendv (ba : Ba) (σ : St) (str : Bool) (s bytes : Nat) (x : Opd) (y : SV) : Option (SV × St) :=
  (if str then (match y with | .p (.str l) => some (byteRows l) | _ => none) else rowsOf σ y).bind fun ys =>
  if (ys.all fun e => e.length == s) = false then none else
  match rd σ x with
  | .p .nils => if ys.isEmpty then some (.p .nils, σ) else if ys.length * bytes ≤ 70368744177664 ∧ ys.length ≤ 70368744177664 then some (.own s ys, σ) else none
  | .al pl t lo n =>
    (rdOwn σ pl).bind fun z =>
      (sub z.2 lo n).bind fun xs =>
      if z.1 = s ∧ t = s ∧ (n + ys.length) * bytes ≤ 70368744177664 ∧ n + ys.length ≤ 70368744177664 ∧ writable ba pl.root then
        (σ.obj pl.root).bind fun cs =>
        (σ.setObj pl.root (cs.set pl.off .undef)).map fun (σ1 : St) =>
          (.own s (xs ++ ys), { σ1 with env := mapE (kill pl.root) σ1.env })
      else none
  | _ => none

/-- arguments that are handed over for good: they are taken out of their slots ahead of all else -/
def moves (σ : St) : Nat → List Nat → List Opd → List (Option SV) × St
  | _, _, [] => ([], σ)
  | i, mv, x :: r =>
    match mv.contains i, take σ (source σ x) with
    | true, .own s es => let z := moves (leave σ (source σ x) .undef) (i + 1) mv r; (some (.own s es) :: z.1, z.2)
    | _, _ => let z := moves σ (i + 1) mv r; (none :: z.1, z.2)
def argsW (σ : St) : List (Option SV) → List Opd → Option (List SV)
  | [], [] => some []
  | some v :: l, _ :: r => (argsW σ l r).map (v :: ·)
  | none :: l, x :: r => (argW σ (rd σ x)).bind fun v => (argsW σ l r).map (v :: ·)
  | _, _ => none
def moveArgs (σ : St) (mv : List Nat) (args : List Opd) : Option (List SV × St) :=
  (argsW (moves σ 0 mv args).2 (moves σ 0 mv args).1 args).map fun l => (l, (moves σ 0 mv args).2)

/-- structs with own slices that are handed over: their slices are for all to read from now on -/
def freezeArgs (σ : St) : List Opd → St
  | [] => σ
  | .t k :: r => match getD .undef σ.env k with
    | .agg cs => match plains (freezeC cs) with
      | some _ => freezeArgs (leave σ (.t k) (freezeV (.agg cs))) r
      | none => freezeArgs σ r
    | _ => freezeArgs σ r
  | .c _ :: r => freezeArgs σ r

def callw (ba : Ba) (callF : Nat → List SV → List Obj → List (List (Nat × Obj)) → Option (SV × List Obj × List (List (Nat × Obj)))) (σ : St) (f : Nat) (args : List SV) : Option (SV × St) :=
  (callF f args σ.hp (σ.out ++ [σ.fr])).bind fun r =>
    let out := (σ.out ++ [σ.fr]).take ba.sb ++ r.2.2.drop ba.sb
    (out.getLast?).map fun fr => (r.1, { env := mapE killMem σ.env, fr := fr, hp := σ.hp.take ba.hb ++ r.2.1.drop ba.hb, out := out.dropLast })

def conPrim (ba : Ba) (σ : St) (s : Nat) (F : List (List PV) → List SV → Option (List (List PV))) : List Opd → Option (SV × St)
  | [] => none
  | x :: r =>
    (r.mapM fun y => argRo σ (rd σ y)).bind fun as =>
    match rd σ x with
    | .p .nils => (F [] as).map fun ys => (if ys.isEmpty then .p .nils else .own s ys, σ)
    | .al pl t lo n =>
      (rdOwn σ pl).bind fun z =>
      (sub z.2 lo n).bind fun xs =>
      if z.1 = s ∧ t = s ∧ writable ba pl.root then
        (F xs as).bind fun ys =>
        (σ.obj pl.root).bind fun cs =>
        (σ.setObj pl.root (cs.set pl.off .undef)).map fun (σ1 : St) => (.own s ys, { σ1 with env := mapE (kill pl.root) σ1.env })
      else none
    | _ => none

/-- parts of a struct that is built, taken out of their slots one by one -/
def takeP (σ : St) : List (Nat × Nat × Opd) → List (Nat × Nat × SV) × St
  | [] => ([], σ)
  | (off, n, x) :: r =>
    let y := source σ x
    let z := takeP (leave σ y .undef) r
    ((off, n, if (take σ y).cells.all okMem then take σ y else .undef) :: z.1, z.2)

/-- elements of a slice that is made: their own slices are for all to read from now on -/
def takeL (σ : St) : List (Nat × Opd) → List (Nat × SV) × St
  | [] => ([], σ)
  | (i, x) :: r =>
    let y := source σ x
    let v := freezeV (take σ y)
    let z := takeL (leave σ y v) r
    ((i, v) :: z.1, z.2)

def eev (T : Tab) (callF : Nat → List SV → List Obj → List (List (Nat × Obj)) → Option (SV × List Obj × List (List (Nat × Obj)))) (ba : Ba) (σ : St) (dst : Option Nat) (op : VOp) : Option (SV × St) :=
  match op with
  | .asg x | .mv x =>
    match x with
    | .t k => let v := getD .undef σ.env k; if owns v then some (v, leave σ x .undef) else some (v, σ)
    | .c v => some (v, σ)
  | .ext x i =>
    match x with
    | .t k => match getD .undef σ.env k with
      | .tup vs => (vs[i]?).map fun v => (v, { σ with env := put (mapE (kill (.sl k)) σ.env) k (.tup (vs.set i .undef)) })
      | _ => none
    | .c _ => none
  | .alloc heap zero => newBox σ heap dst (zero.map .p)
  | .allocO heap zero => if zero.all (okAt (if heap then .hp 0 else .st σ.out.length 0)) then newBox σ heap dst zero else none
  | .box heap sz x0 =>
    let x := source σ x0
    let v := take σ x
    let cs := if heap || v.cells.length == 1 then v.cells else freezeC v.cells
    if isUndef v = false ∧ cs.length = sz ∧ cs.all (okAt (if heap then .hp 0 else .st σ.out.length 0)) = true then newBox (leave σ x .undef) heap dst cs else none
  | .lit s zero len parts =>
    let z := takeL σ parts
    (fillL s (List.replicate len zero) z.1).map fun r => (.own s r, z.2)
  | .build zero parts =>
    let z := takeP σ parts
    (buildv zero z.1).map fun v => (v, z.2)
  | .store sz a x => match rd σ a with
    | .ptr pl => (storev ba σ sz pl x).map fun σ' => (.undef, σ')
    | _ => none
  | .append str s bytes x y => appendv ba σ str s bytes x (rd σ y)
  | .call f args =>
    match T.prim f with
    | some (.con s F) => conPrim ba σ s F args
    | some (.q _) => none
    | none =>
      let σ1 := freezeArgs σ args
      if T.ro f then none else
      (moveArgs σ1 (T.mv f) args).bind fun a => callw ba callF a.2 f a.1
  | .callv g args => match rd σ g with
    | .fn f caps =>
      let σ1 := freezeArgs σ args
      if T.ro f || !okMem.okCaps caps then none else
      (moveArgs σ1 [] args).bind fun a => callw ba callF a.2 f (a.1 ++ caps)
    | _ => none
  | _ => none

/-! ### the run -/

inductive Ex where
  | normal | exit (id : Nat) | ret
  deriving DecidableEq, Inhabited

abbrev CallF := Ba → Nat → List SV → List Obj → List (List (Nat × Obj)) → Option (SV × List Obj × List (List (Nat × Obj)))

/-- a call that only reads: all that lay there when it began is as it was -/
def callRo (T : Tab) (c : CallF) (σ : St) (f : Nat) (args : List SV) : Option SV :=
  match T.prim f with
  | some (.q F) => F args
  | some (.con _ _) => none
  | none =>
    if T.ro f then
      (c ⟨σ.hp.length, σ.out.length + 1⟩ f args σ.hp (σ.out ++ [σ.fr])).bind fun r =>
        if okRet σ.hp.length (σ.out.length + 1) r.1 then some r.1 else none
    else none

/-- does a call only read? -/
def roCall (T : Tab) (f : Nat) : Bool :=
  match T.prim f with
  | some (.q _) => true
  | some (.con _ _) => false
  | none => T.ro f

def opEv (T : Tab) (c : CallF) (ba : Ba) (σ : St) (dst : Option Nat) (op : VOp) : Option (SV × St) :=
  match op with
  | .call f args =>
    if roCall T f then (qev (callRo T c (freezeArgs σ args)) (freezeArgs σ args) (.call f args)).map fun v => (v, freezeArgs σ args)
    else eev T (c ba) ba σ dst (.call f args)
  | .callv g args =>
    match rd σ g with
    | .fn f _ => if T.ro f then (qev (callRo T c σ) σ (.callv g args)).map fun v => (v, σ) else eev T (c ba) ba σ dst (.callv g args)
    | _ => none
  | op =>
    match qev (fun _ _ => none) σ op with
    | some v => some (v, σ)
    | none => eev T (c ba) ba σ dst op

/-- what an operation that isn't wanted leaves -/
def skipV : SV := .tup []

def wanted (ops : List VOper) (σ : St) (o : VOper) : Option Bool :=
  match o.guard with
  | none => some true
  | some (j, want) =>
    match (ops[j]?).bind (·.dst) with
    | some d => match getD .undef σ.env d with
      | .p (.bool b) => some (match want with | true => b | false => !b)
      | .tup [] => some false
      | _ => none
    | none => some false

def runOps (T : Tab) (c : CallF) (ba : Ba) (all : List VOper) : List VOper → St → Option St
  | [], σ => some σ
  | o :: r, σ =>
    match wanted all σ o with
    | some true => (opEv T c ba σ o.dst o.op).bind fun x => runOps T c ba all r (putv x.2 o.dst x.1)
    | some false => runOps T c ba all r (putv σ o.dst skipV)
    | none => none

def opdT : Opd → List Nat
  | .t k => [k]
  | .c _ => []
def optT : Option Opd → List Nat
  | some x => opdT x
  | none => []
def opTs : VOp → List Nat
  | .mv x | .asg x | .box _ _ x | .load _ x | .nilck x | .un _ x | .conv _ x | .make _ _ _ x | .faddr _ x | .fld _ _ x | .ext x _ | .len _ x => opdT x
  | .pick a b c => opdT a ++ opdT b ++ opdT c
  | .alloc _ _ | .allocO _ _ => []
  | .build _ ps => ps.flatMap fun x => opdT x.2.2
  | .lit _ _ _ ps => ps.flatMap fun x => opdT x.2
  | .store _ a x | .bin _ _ a x | .iaddrS _ a x | .iaddrA _ _ a x | .idxS a x | .idxA _ _ _ a x | .append _ _ _ a x => opdT a ++ opdT x
  | .mkfn _ l | .call _ l | .mnmx _ l => l.flatMap opdT
  | .slc _ _ x a b c => opdT x ++ optT a ++ optT b ++ optT c
  | .callv g l => opdT g ++ l.flatMap opdT

-- the slots whose slices a value looks at
mutual
def rootsOf : SV → List Nat
  | .al pl _ _ _ => match pl.root with | .sl k => [k] | _ => []
  | .ptr pl => match pl.root with | .sl k => [k] | _ => []
  | .fn _ caps => rootsOfL caps
  | .agg cs => rootsOfL cs
  | .tup cs => rootsOfL cs
  | _ => []
def rootsOfL : List SV → List Nat
  | [] => []
  | v :: l => rootsOf v ++ rootsOfL l
end

/-- the slots that count for an operation that only reads -/
def projE (σ : St) (op : VOp) : Option (List (Nat × SV)) :=
  let rs := (opTs op).flatMap fun t => rootsOf (getD .undef σ.env t)
  if rs.all fun k => isOwn (getD .undef σ.env k) then some ((opTs op ++ rs).map fun k => (k, getD .undef σ.env k)) else none

/-- an operation that only reads, by these slots alone -/
def evalP (T : Tab) (c : CallF) (σ : St) (op : VOp) : Option SV := (projE σ op).bind fun e => qev (callRo T c σ) { σ with env := e } op

def undOk (ops : List VOper) (L : List Nat) (σ : St) : Bool :=
  (List.range ops.length).all fun k => L.contains k || (match (ops[k]?).bind (·.dst) with | some d => isUndef (getD .undef σ.env d) | none => true)

/-- what an operation that only reads yields, wanted or not -/
def qstep (T : Tab) (c : CallF) (ops : List VOper) (σ : St) (o : VOper) : Option SV :=
  match wanted ops σ o with
  | some true => evalP T c σ o.op
  | some false => some skipV
  | none => none

def uniN : List Nat → List Nat → List Nat
  | [], b => b
  | k :: a, b => uniN a (if b.contains k then b else k :: b)
def befOf (acc : List (List Nat)) : List Nat → List Nat
  | [] => []
  | j :: r => uniN (j :: acc.getD j []) (befOf acc r)
/-- what must come ahead of each operation -/
def befs : List VOper → List (List Nat) → List (List Nat)
  | [], acc => acc
  | o :: r, acc => befs r (acc ++ [befOf acc o.after])

/-- a new variable is in nobody's way -/
def isSoft : VOp → Bool
  | .alloc _ _ => true
  | .allocO _ _ => true
  | _ => false
def softAt (ops : List VOper) (e : Nat) : Bool :=
  match ops[e]? with
  | some o => isSoft o.op
  | none => false

/-- what was read ahead, and may be read behind as well, is read anew -/
def valOk (T : Tab) (c : CallF) (ops : List VOper) (effs bef : List Nat) : List Nat → St → Bool
  | [], _ => true
  | h :: L, σ => (effs.contains h || bef.contains h || (match ops[h]? with
      | some o => match qstep T c ops σ o with
        | some v => match o.dst with
          | some d => SV.beq v (getD .undef σ.env d)
          | none => true
        | none => false
      | none => true)) && valOk T c ops effs bef L σ

/-- one operation of a region with an open order -/
def stepD (T : Tab) (c : CallF) (ba : Ba) (ops : List VOper) (effs L : List Nat) (i : Nat) (σ : St) : Option St :=
  match ops[i]? with
  | none => none
  | some o =>
    match wanted ops σ o with
    | some true =>
      if effs.contains i then
        (opEv T c ba σ o.dst o.op).bind fun x =>
          if undOk ops (i :: L) (putv x.2 o.dst x.1) && (!isSoft o.op || valOk T c ops effs ((befs ops []).getD i []) L (putv x.2 o.dst x.1)) then some (putv x.2 o.dst x.1) else none
      else (evalP T c σ o.op).map fun v => putv σ o.dst v
    | some false => some (putv σ o.dst skipV)
    | none => none

def envBeq : List (Nat × SV) → List (Nat × SV) → Bool
  | [], [] => true
  | (j, a) :: x, (k, b) :: y => j == k && SV.beq a b && envBeq x y
  | _, _ => false
def frBeq : List (Nat × Obj) → List (Nat × Obj) → Bool
  | [], [] => true
  | (j, a) :: x, (k, b) :: y => j == k && SV.beqL a b && frBeq x y
  | _, _ => false
def hpBeq : List Obj → List Obj → Bool
  | [], [] => true
  | a :: x, b :: y => SV.beqL a b && hpBeq x y
  | _, _ => false
def outBeq : List (List (Nat × Obj)) → List (List (Nat × Obj)) → Bool
  | [], [] => true
  | a :: x, b :: y => frBeq a b && outBeq x y
  | _, _ => false
def St.beq (a b : St) : Bool := envBeq a.env b.env && frBeq a.fr b.fr && hpBeq a.hp b.hp && outBeq a.out b.out

/-- a region with an open order: where it counts, all of them, with one outcome -/
def runT (T : Tab) (c : CallF) (ba : Ba) (ops : List VOper) (effs : List Nat) : OT → List Nat → St → Option St
  | .fin, _, σ => some σ
  | .one i t, L, σ => (stepD T c ba ops effs L i σ).bind (runT T c ba ops effs t (i :: L))
  | .alt i t .fin, L, σ => (stepD T c ba ops effs L i σ).bind (runT T c ba ops effs t (i :: L))
  | .alt i t r, L, σ => ((stepD T c ba ops effs L i σ).bind (runT T c ba ops effs t (i :: L))).bind fun F => (runT T c ba ops effs r L σ).bind fun F' => if St.beq F F' then some F else none

def dstsOf (ops : List VOper) : List Nat := ops.filterMap (·.dst)

def keepB (l : List Nat) : List (Nat × Obj) → List (Nat × Obj)
  | [] => []
  | (k, o) :: r => (k, if l.contains k then o else []) :: keepB l r

/-- slots that own a slice and are given up -/
def dropped (keep : List Nat) : List (Nat × SV) → List Nat
  | [] => []
  | (k, v) :: r => if isOwn v && !keep.contains k then k :: dropped keep r else dropped keep r

def clearAll : List Nat → St → St
  | [], σ => σ
  | k :: r, σ => clearAll r (clear σ k)

def runReg (T : Tab) (c : CallF) (ba : Ba) (draw : Option (List Nat × OT)) (ops : List VOper) (σ : St) : Option St :=
  match draw with
  | none => runOps T c ba ops ops σ
  | some (effs, t) => runT T c ba ops effs t [] (clearAll (dstsOf ops) σ)

def tidy (keep boxes : List Nat) (σ : St) : St :=
  let σ1 := clearAll (dropped keep σ.env) σ
  { σ1 with env := keep.map fun k => (k, getD .undef σ1.env k), fr := keepB boxes σ1.fr }

def exec (T : Tab) : Nat → (CallF) → Ba → VCode → St → Option (Ex × St)
  | 0, _, _, _, _ => none
  | n + 1, c, ba, code, σ =>
    match code with
    | .skip => some (.normal, σ)
    | .region draw ops keep boxes => (runReg T c ba draw ops σ).map fun σ' => (.normal, tidy keep boxes σ')
    | .seq a b => match exec T n c ba a σ with
      | some (.normal, σ') => exec T n c ba b σ'
      | r => r
    | .cond x a b => match rd σ x with
      | .p (.bool true) => exec T n c ba a σ
      | .p (.bool false) => exec T n c ba b σ
      | _ => none
    | .block id b => match exec T n c ba b σ with
      | some (.exit j, σ') => some (if j = id then .normal else .exit j, σ')
      | r => r
    | .loop b => match exec T n c ba b σ with
      | some (.normal, σ') => exec T n c ba (.loop b) σ'
      | r => r
    | .exit id => some (.exit id, σ)
    | .ret => some (.ret, σ)
    | .stuck => none

/-- results, taken out of the frame -/
def takeRes (σ : St) : List Res → Option (List SV)
  | [] => some []
  | .t k :: r => (takeRes (leave σ (source σ (.t k)) .undef) r).map (take σ (source σ (.t k)) :: ·)
  | .cell k sz :: r => match loadv σ sz (getD .undef σ.env k) with
    | some (.p v) => (takeRes σ r).map (.p v :: ·)
    | some (.pagg cs) => (takeRes σ r).map (.pagg cs :: ·)
    | _ => none

def resS : List SV → SV
  | [v] => v
  | vs => .tup vs

def finish (vf : VFun) (σ : St) : Option (SV × List Obj × List (List (Nat × Obj))) :=
  (takeRes σ vf.res).bind fun vs =>
    if okRet σ.hp.length σ.out.length (resS vs) then some (resS vs, σ.hp, σ.out) else none

def start (vf : VFun) (args : List SV) (hp : List Obj) (out : List (List (Nat × Obj))) : St :=
  { env := vf.vars.map fun k => (k, args.getD k .undef), fr := vf.boxes.map fun k => (k, []), hp := hp, out := out }

def callN (T : Tab) : Nat → CallF
  | 0 => fun _ _ _ _ _ => none
  | n + 1 => fun ba f args hp out =>
    (T.fns f).bind fun vf =>
      match exec T (n + 1) (callN T n) ba vf.body (start vf args hp out) with
      | some (.ret, σ) => if σ.out.length = out.length then finish vf σ else none
      | some (.normal, σ) => if σ.out.length = out.length then finish vf σ else none
      | _ => none

end Go.VM

/-
From the translated code to the machine's code: closed functions, reckoned by the kernel.
-/
namespace Go.VM

def vOf : Value → Option SV
  | .int k n => some (.p (.int k n))
  | .bool b => some (.p (.bool b))
  | .string s => some (.p (.str s.data.toList))
  | .pointer none => some .nilp
  | .slice none 0 0 => some (.p .nils)
  | .nilFunc => some .nilf
  | .tuple _ => some .undef
  | _ => none

def opdOf : Operand → Option Opd
  | .tmp k => some (.t k)
  | .const v => (vOf v).map .c
  | .func f => some (.c (.fn f []))
  | .global _ => none

def mapO {α β : Type} (f : α → Option β) : List α → Option (List β)
  | [] => some []
  | x :: r => (f x).bind fun y => (mapO f r).map (y :: ·)

def szOf (P : Program) (t : TypeId) : Option Nat := (P.info? t).map (·.size)
def aggOf (P : Program) (t : TypeId) : Option Bool :=
  (P.underlying t).map fun d => match d with | .struct _ => true | .array _ _ => true | _ => false
/-- how a variable is read: one cell, or so many -/
def ldOf (P : Program) (t : TypeId) : Option (Option Nat) :=
  (aggOf P t).bind fun a => if a then (szOf P t).bind fun n => if n = 0 then none else some (some n) else some none
def zeroOf (P : Program) (t : TypeId) : Option (List SV) :=
  (P.info? t).bind fun i => i.zero.bind fun v => mapO vOf v.cells.toList
def fldOf (P : Program) (t : TypeId) (f : Nat) : Option (Nat × TypeId) :=
  match P.underlying t with
  | some (.struct fs) => (fs[f]?).map fun x => (x.offset, x.type)
  | _ => none
/-- where a struct's fields, an array's elements lie -/
def placesOf (P : Program) (t : TypeId) : Option (Nat → Option (Nat × Nat)) :=
  match P.underlying t with
  | some (.struct fs) => (fs.toList.mapM fun f => (P.info? f.type).map fun i => (f.offset, i.size)).map fun l i => l[i]?
  | some (.array _ e) => (P.info? e).map fun ie i => some (i * ie.size, ie.size)
  | _ => none
def elemTy (P : Program) (t : TypeId) : Option TypeId :=
  match P.underlying t with
  | some (.slice e) => some e
  | _ => none

/-- are two of this type equal just if all their cells are? the kinds of the cells, side by side -/
def eqf (P : Program) (rec : TypeId → Option (List Ck)) : List Field → Nat → Option (List Ck)
  | [], _ => some []
  | f :: r, k => if f.name != "_" && f.offset == k then (rec f.type).bind fun l => if szOf P f.type = some l.length then (eqf P rec r (k + l.length)).map (l ++ ·) else none else none
def eqk (P : Program) : Nat → TypeId → Option (List Ck)
  | 0, _ => none
  | n + 1, t =>
    match P.underlying t with
    | some (.int _) => some [.int]
    | some .bool => some [.bool]
    | some .string => some [.str]
    | some (.struct fs) => if P.stoodInHeld t || P.eqGuardType P.depth t then none else eqf P (eqk P n) fs.toList 0
    | _ => none

def ekOf (P : Program) (t : TypeId) : Ek :=
  match P.underlying t with
  | some .bool => .bool
  | some (.pointer _) => .ptr
  | some (.slice _) => .slice
  | some (.func _ _ _) => .func
  | some (.struct _) => match eqk P 8 t with | some l => .struct l | none => .no
  | _ => .no

def cvOf (P : Program) (s d : TypeId) : Option Cv :=
  match P.underlying s, P.underlying d with
  | some (.int _), some (.int k) => some (.int k)
  | some .string, some .string => some .same
  | some .string, some (.slice e) => match P.underlying e with
    | some (.int .u8) => some .s2b
    | _ => none
  | some (.slice e), some .string => match P.underlying e with
    | some (.int .u8) => some .b2s
    | _ => none
  | _, _ => none

def optO : Option Operand → Option (Option Opd)
  | none => some none
  | some x => (opdOf x).map some

/-- an operation; h: does what it makes lie in the heap? -/
def opOf (P : Program) (h : Bool) : Op → Option VOp
  | .move x => (opdOf x).map .mv
  | .assign x => (opdOf x).map .asg
  | .pick c a b => (opdOf c).bind fun c => (opdOf a).bind fun a => (opdOf b).map fun b => .pick c a b
  | .alloc t => (zeroOf P t).map fun z => match plains z with | some l => .alloc h l | none => .allocO h z
  | .box t x => (szOf P t).bind fun n => (opdOf x).map fun x => .box h n x
  | .build t parts => (zeroOf P t).bind fun z => (placesOf P t).bind fun pl =>
      (mapO (fun x : Nat × Operand => (pl x.1).bind fun q => (opdOf x.2).map fun y => (q.1, q.2, y)) parts.toList).map fun l => .build z l
  | .buildSlice t len parts => (elemTy P t).bind fun e => (szOf P e).bind fun s => (zeroOf P e).bind fun z => (plains z).bind fun z =>
      if len * s ≤ 65536 ∧ s ≠ 0 ∧ z.length = s then (mapO (fun x : Nat × Operand => (opdOf x.2).map fun y => (x.1, y)) parts.toList).map fun l => .lit s z len l else none
  | .load t a => (ldOf P t).bind fun z => (opdOf a).map fun a => .load z a
  | .store t a x => (szOf P t).bind fun n => (opdOf a).bind fun a => (opdOf x).map fun x => .store n a x
  | .nilCheck x => (opdOf x).map .nilck
  | .binOp op t x y _ => (opdOf x).bind fun x => (opdOf y).map fun y => .bin op (ekOf P t) x y
  | .unOp op _ x => (opdOf x).map fun x => .un op x
  | .convert s d x => (cvOf P s d).bind fun c => (opdOf x).map fun x => .conv c x
  | .makeFunc fn first caps => match fn with
    | .func f => if first.size = 0 then (mapO opdOf caps.toList).map fun l => .mkfn f l else none
    | _ => none
  | .makeSlice t len cap => match len, cap with
    | .tmp a, .tmp b => if a = b then (elemTy P t).bind fun e => (szOf P e).bind fun s => (zeroOf P e).bind fun z => (plains z).bind fun z => (P.info? e).bind fun i => if z.length = s ∧ s ≠ 0 then some (.make s i.bytes z (.t a)) else none else none
    | _, _ => none
  | .slice t x lo hi mx => match P.underlying t with
    | some (.slice e) => (szOf P e).bind fun s => (opdOf x).bind fun x => (optO lo).bind fun lo => (optO hi).bind fun hi => (optO mx).map fun mx => .slc false s x lo hi mx
    | some .string => (opdOf x).bind fun x => (optO lo).bind fun lo => (optO hi).bind fun hi => (optO mx).map fun mx => .slc true 1 x lo hi mx
    | _ => none
  | .fieldAddr t x f => (fldOf P t f).bind fun o => (szOf P o.2).bind fun n => if n = 0 then none else (opdOf x).map fun x => .faddr o.1 x
  | .field t x f => (fldOf P t f).bind fun o => (ldOf P o.2).bind fun z => (opdOf x).map fun x => .fld o.1 z x
  | .indexAddr t x i => match P.underlying t with
    | some (.slice e) => (szOf P e).bind fun s => (opdOf x).bind fun x => (opdOf i).map fun i => .iaddrS s x i
    | some (.array n e) => (szOf P e).bind fun s => if s = 0 then none else (opdOf x).bind fun x => (opdOf i).map fun i => .iaddrA n s x i
    | _ => none
  | .index t x i => match P.underlying t with
    | some .string => (opdOf x).bind fun x => (opdOf i).map fun i => .idxS x i
    | some (.array n e) => (ldOf P e).bind fun z => if szOf P e = some (z.getD 1) then (opdOf x).bind fun x => (opdOf i).map fun i => .idxA n (z.getD 1) z.isSome x i else none
    | _ => none
  | .extract x i => (opdOf x).map fun x => .ext x i
  | .call c => match c.callee with
    | .value (.func f) => (mapO opdOf c.args.toList).map fun l => .call f l
    | .value g => (opdOf g).bind fun g => (mapO opdOf c.args.toList).map fun l => .callv g l
    | .builtin .len => match c.argTypes.toList, c.args.toList with
      | [t], [x] => match P.underlying t with
        | some (.slice _) => (opdOf x).map (.len false)
        | some .string => (opdOf x).map (.len true)
        | _ => none
      | _, _ => none
    | .builtin .append => match c.argTypes.toList, c.args.toList with
      | [t, u], [x, y] => (elemTy P t).bind fun e => (P.info? e).bind fun i => (zeroOf P e).bind fun z => if z.length ≠ i.size ∨ i.size = 0 then none else
          match P.underlying u with
          | some (.slice e') => (szOf P e').bind fun s' => if s' = i.size ∧ i.bytes ≠ 0 then (opdOf x).bind fun x => (opdOf y).map fun y => .append false i.size i.bytes x y else none
          | some .string => if i.size = 1 ∧ i.bytes ≠ 0 then (opdOf x).bind fun x => (opdOf y).map fun y => .append true i.size i.bytes x y else none
          | _ => none
      | _, _ => none
    | .builtin .max => (mapO opdOf c.args.toList).map fun l => .mnmx true l
    | .builtin .min => (mapO opdOf c.args.toList).map fun l => .mnmx false l
    | _ => none
  | _ => none

/-! ### which slots live on: hints, of no weight -/

def addN (l : List Nat) (k : Nat) : List Nat := if l.contains k then l else k :: l
def unionN (a b : List Nat) : List Nat := a.foldl addN b
def insertS (k : Nat) : List Nat → List Nat
  | [] => [k]
  | a :: r => if k < a then k :: a :: r else if k = a then a :: r else a :: insertS k r
def sortN (l : List Nat) : List Nat := l.foldl (fun a k => insertS k a) []
def liveOps (all : List VOper) : List VOper → List Nat → List Nat
  | [], l => l
  | o :: r, l =>
    let l := liveOps all r l
    let l := match o.guard, o.dst, o.op with
      | some _, some _, .asg _ => l
      | _, some d, _ => l.filter (· != d)
      | _, _, _ => l
    let l := unionN (opTs o.op) l
    match o.guard with
    | some (j, _) => unionN (((all[j]?).bind (·.dst)).toList) l
    | none => l

/-- a slot that looks at another one's slice: while it lives the other one does -/
def depsOf : VCode → List (Nat × Nat)
  | .region _ ops _ _ => ops.flatMap fun o => match o.dst, o.op with
    | some d, .mv (.t k) | some d, .slc _ _ (.t k) _ _ _ => [(d, k)]
    | some d, .asg (.t k) => [(d, k)]
    | _, _ => []
  | .seq a b | .cond _ a b => depsOf a ++ depsOf b
  | .block _ b | .loop b => depsOf b
  | _ => []
def closeN (deps : List (Nat × Nat)) (l : List Nat) : List Nat :=
  (List.range 6).foldl (fun l _ => deps.foldl (fun l x => if l.contains x.1 then addN l x.2 else l) l) l

/-- slots of numbers -/
def numsOf : VCode → List Nat
  | .region _ ops _ _ => ops.flatMap fun o => match o.dst, o.op with
    | some d, .bin .. | some d, .un .. | some d, .len .. | some d, .slc true .. => [d]
    | _, _ => []
  | .seq a b | .cond _ a b => numsOf a ++ numsOf b
  | .block _ b | .loop b => numsOf b
  | _ => []

/-- the code with its hints, and what lives ahead of it -/
def ann (deps : List (Nat × Nat)) (caps res : List Nat) : VCode → (after : List Nat) → (ex : Nat → List Nat) → VCode × List Nat
  | .skip, a, _ => (.skip, a)
  | .region d ops _ _, a, _ =>
    let k := sortN (closeN deps a)
    (.region d ops k (sortN (unionN caps k)), liveOps ops ops a)
  | .seq x y, a, ex =>
    let (y', l) := ann deps caps res y a ex
    let (x', l') := ann deps caps res x l ex
    (.seq x' y', l')
  | .cond c x y, a, ex =>
    let (x', l) := ann deps caps res x a ex
    let (y', l') := ann deps caps res y a ex
    (.cond c x' y', unionN (opdT c) (unionN l l'))
  | .block id b, a, ex =>
    let (b', l) := ann deps caps res b a (fun j => if j = id then a else ex j)
    (.block id b', l)
  | .loop b, _, ex =>
    let l1 := (ann deps caps res b [] ex).2
    let l2 := (ann deps caps res b l1 ex).2
    let (b', l3) := ann deps caps res b (unionN l1 l2) ex
    (.loop b', l3)
  | .exit id, _, ex => (.exit id, ex id)
  | .ret, _, _ => (.ret, res)
  | .stuck, _, _ => (.stuck, [])

def unguard : Option (Nat × Bool) → Option (Nat × Bool) := id

def operOf (P : Program) (heap : Nat → Bool) (o : Oper) : Option VOper :=
  (opOf P (match o.dst with | some d => heap d | none => false) o.op).map fun v => { dst := o.dst, op := v, after := o.after.toList.filterMap fun e => if Region.binds .any e then some e.on else none, guard := o.guard }

/-! ### open orders -/

def guardT (ops : List VOper) (o : VOper) : List Nat :=
  match o.guard with
  | some (j, _) => match (ops[j]?).bind (·.dst) with | some d => [d] | none => []
  | none => []
/-- each slot that an operation looks at and that is made here is made ahead; no two make one -/
def wellD (ops : List VOper) (bef : List (List Nat)) : Bool :=
  (List.range ops.length).all fun k => match ops[k]? with
    | none => true
    | some o => (o.after.all fun j => decide (j < k)) &&
      (List.range ops.length).all fun r => match (ops[r]?).bind (·.dst) with
        | none => true
        | some d => (!(opTs o.op ++ guardT ops o).contains d || (bef.getD k []).contains r) && (r == k || o.dst != some d)
def isReady (ops : List VOper) (L : List Nat) (i : Nat) : Bool :=
  match ops[i]? with
  | none => false
  | some o => !L.contains i && o.after.all L.contains
def isTame (ops : List VOper) (bef : List (List Nat)) (effs L : List Nat) (i : Nat) : Bool :=
  if effs.contains i then (List.range ops.length).all fun j => !isReady ops L j || j == i
  else effs.all fun e => L.contains e || (bef.getD e []).contains i || softAt ops e
def okT (ops : List VOper) (bef : List (List Nat)) (effs : List Nat) : OT → List Nat → Option (List Nat) → Bool
  | .fin, L, none => (List.range ops.length).all L.contains
  | .fin, L, some cov => (List.range ops.length).all fun j => !isReady ops L j || cov.contains j
  | .one i t, L, none => isReady ops L i && isTame ops bef effs L i && okT ops bef effs t (i :: L) none
  | .one _ _, _, some _ => false
  | .alt i t r, L, cov => isReady ops L i && okT ops bef effs t (i :: L) none && okT ops bef effs r L (some (i :: cov.getD []))
def drawOk (ops : List VOper) (effs : List Nat) (t : OT) : Bool := wellD ops (befs ops []) && (effs.all fun e => decide (e < ops.length)) && okT ops (befs ops []) effs t [] none

/-- an order, where one counts: all of them (a hint, of no weight) -/
def mkAlts (f : Nat → OT) : List Nat → OT
  | [] => .fin
  | i :: r => .alt i (f i) (mkAlts f r)
def mkT (ops : List VOper) (bef : List (List Nat)) (effs : List Nat) : Nat → Nat → List Nat → OT
  | 0, _, _ => .fin
  | n + 1, w, L =>
    let rs := (List.range ops.length).filter (isReady ops L)
    match rs.find? (isTame ops bef effs L) with
    | some i => .one i (mkT ops bef effs n w (i :: L))
    | none => match w with
      | 0 => .fin
      | w + 1 => if rs.length ≤ 3 then mkAlts (fun i => mkT ops bef effs n w (i :: L)) rs else .fin
def isEff (ro : Nat → Bool) : VOp → Bool
  | .asg _ | .alloc _ _ | .allocO _ _ | .box _ _ _ | .store _ _ _ | .append _ _ _ _ _ => true
  | .call f _ => !ro f
  | _ => false
def effsOf (ro : Nat → Bool) (asg : Bool) (ops : List VOper) : List Nat := (List.range ops.length).filter fun i => match ops[i]? with
  | some o => (match o.op with | .asg _ => asg | op => isEff ro op)
  | none => false
def drawOf1 (ro : Nat → Bool) (asg : Bool) (ops : List VOper) : Option (List Nat × OT) :=
  let e := effsOf ro asg ops
  let t := mkT ops (befs ops []) e (ops.length + 1) 7 []
  if drawOk ops e t then some (e, t) else none
def drawOf (ro : Nat → Bool) (d : Bool) (ops : List VOper) : Option (Option (List Nat × OT)) :=
  if d then
    match drawOf1 ro true ops with
    | some x => some (some x)
    | none => (drawOf1 ro false ops).map some
  else some none

def codeOf (P : Program) (ro : Nat → Bool) (heap : Nat → Bool) : Code → VCode
  | .skip => .skip
  | .region _ ops d => match mapO (operOf P heap) ops.toList with
    | some l => match drawOf ro d l with
      | some t => .region t l [] []
      | none => .stuck
    | none => .stuck
  | .seq a b => .seq (codeOf P ro heap a) (codeOf P ro heap b)
  | .cond c a b => match opdOf c with
    | some c => .cond c (codeOf P ro heap a) (codeOf P ro heap b)
    | none => .stuck
  | .block id b => .block id (codeOf P ro heap b)
  | .loop b => .loop (codeOf P ro heap b)
  | .exit id => .exit id
  | .ret => .ret
  | _ => .stuck

def resOf (P : Program) : ResultVar → Option Res
  | .tmp k => some (.t k)
  | .cell k t => (ldOf P t).map fun z => .cell k z

def boxesOf : VCode → List Nat
  | .region _ ops _ _ => ops.flatMap fun o => match o.op, o.dst with
    | .alloc false _, some d | .allocO false _, some d | .box false _ _, some d => [d]
    | _, _ => []
  | .seq a b | .cond _ a b => boxesOf a ++ boxesOf b
  | .block _ b | .loop b => boxesOf b
  | _ => []
def capsOf : VCode → List Nat
  | .region _ ops _ _ => ops.flatMap fun o => match o.op with
    | .mkfn _ l => l.flatMap opdT
    | _ => []
  | .seq a b | .cond _ a b => capsOf a ++ capsOf b
  | .block _ b | .loop b => capsOf b
  | _ => []

def resTs : List Res → List Nat
  | [] => []
  | .t k :: r => k :: resTs r
  | .cell k _ :: r => k :: resTs r

def varsOf : VCode → List Nat
  | .region _ _ k _ => k
  | .seq a b | .cond _ a b => unionN (varsOf a) (varsOf b)
  | .block _ b | .loop b => varsOf b
  | _ => []

/-- every result lies within the frame -/
def dstOk (n : Nat) : VCode → Bool
  | .region _ ops _ _ => ops.all fun o => match o.dst with | some d => decide (d < n) | none => true
  | .seq a b | .cond _ a b => dstOk n a && dstOk n b
  | .block _ b | .loop b => dstOk n b
  | _ => true

/-- does what an operation makes lie in the heap? a guess of no weight: named variables lie in the frame -/
def heapOf (f : Func) (rs : List Res) (d : Nat) : Bool :=
  (f.tmpNames.getD d "") == "" && !(rs.filterMap fun r => match r with | .cell k _ => some k | _ => none).contains d

def funOf (P : Program) (ro : Nat → Bool) (mv : List Nat) (f : Func) : Option VFun :=
  f.body.bind fun c =>
  (mapO (resOf P) f.results.toList).bind fun rs =>
  let v := codeOf P ro (heapOf f rs) c
  let ns := numsOf v
  let a := ann ((depsOf v).filter fun x => !ns.contains x.2) (capsOf v) (resTs rs) v (resTs rs) (fun _ => resTs rs)
  if dstOk f.ntmps a.1 then some { vars := sortN a.2, boxes := sortN (boxesOf v), mv := mv, res := rs, body := a.1 } else none

end Go.VM

