/- A MACHINE IN LEAN THAT SPEAKS FOR THE MODEL: text Fa of four. What its run answers the model answers, in every world, on every tape. -/
import GoSem.Dispatch
/- THE LOGICAL MACHINE L1: a deterministic interpreter over a compiled form of a function's code. Definitions alone, in the style of continuations; FgSound.. prove that what it answers the model's machine answers too, in every world, on every tape. -/
namespace Go.L1

/-- Of which kind a logical block is: 'ro': read alone; 'fixed': its size is known; 'wide': made by append, the real block may be longer; the number: cells of an element. -/
inductive Kind where
  | ro | fixed | wide (sz : Nat)
  deriving DecidableEq, Inhabited


def Kind.isWide : Kind → Bool
  | .wide _ => true
  | _ => false

/-- A bool, a whole number, a string. -/
inductive PK where
  | b | n | s
  deriving Inhabited

/-- How a struct's or an array's cells are compared: the places of cells that count. -/
inductive EqK where
  | agg (offs : List (Nat × PK))
  | bl | ptr | slc | mp | fn | iface
  deriving Inhabited

/-- A map's keys: plain ones, or structs and arrays of them. -/
inductive KeyK where
  | prim (k : PK)
  | agg (n : Nat) (offs : List (Nat × PK))
  deriving Inhabited

inductive LConv where
  | int (k : IntKind)
  | str | strBytes (e : TypeId) | bytesStr | ofInt
  | toUnsafe (e n : Nat) | ofUnsafe (u n : Nat)
  deriving Inhabited

inductive LOp where
  | move (x : Operand)
  | pick (c a b : Operand)
  | alloc (zero : List Value) (e : TypeId)
  | box (n : Nat) (e : TypeId) (x : Operand)
  | build (zero : List Value) (parts : List (Nat × Nat × Operand))
  | buildSlice (len sz : Nat) (e : TypeId) (zero : List Value) (parts : List (Nat × Nat × Operand))
  | load1 (a : Operand)
  | loadN (n : Nat) (a : Operand)
  | store (n : Nat) (a v : Operand)
  | nilCheck (x : Operand)
  | bin (op : BinOp) (x y : Operand)
  | eq (neg : Bool) (k : EqK) (x y : Operand)
  | un (op : UnOp) (x : Operand)
  | conv (c : LConv) (x : Operand)
  | mkIface (t : TypeId) (x : Operand)
  | mkFunc (fn : Fn) (first captured : List Operand)
  | mkMap
  | mkSlice (sz bytes : Nat) (e : TypeId) (zero : List Value) (l c : Operand)
  | sliceStr (x : Operand) (lo hi : Option Operand)
  | slice (sz : Nat) (x : Operand) (lo hi mx : Option Operand)
  | sliceArr (n sz : Nat) (x : Operand) (lo hi mx : Option Operand)
  | fieldAddr (off : Nat) (x : Operand)
  | field1 (off : Nat) (x : Operand)
  | fieldN (off n : Nat) (x : Operand)
  | indexAddr (sz : Nat) (x i : Operand)
  | indexArr (n sz : Nat) (x i : Operand)
  | indexStr (x i : Operand)
  | indexAgg (n sz : Nat) (agg : Bool) (x i : Operand)
  | lookup (ks : KeyK) (zero : Value) (ok : Bool) (m k : Operand)
  | mapUpdate (ks : KeyK) (m k v : Operand)
  | mapEntry (ks : KeyK) (zero : Value) (m k : Operand)
  | entryStore (m s v : Operand)
  | rangeStr (x : Operand)
  | nextStr (it : Operand)
  | extract (t : Operand) (i : Nat)
  | call (f : Operand) (args : List Operand)
  | len (str : Bool) (x : Operand)
  | lenArr (n : Nat)
  | lenMap (x : Operand)
  | cap (x : Operand)
  | append (sz bytes : Nat) (e : TypeId) (zero : List Value) (zeros : Bool) (s x : Operand)
  | copy (sz : Nat) (d s : Operand)
  | min (xs : List Operand)
  | max (xs : List Operand)
  | clearSlice (zero : List Value) (x : Operand)
  | clearMap (x : Operand)
  | delete (ks : KeyK) (m k : Operand)
  | unsafeData (x : Operand)
  | unsafeStr (e : TypeId) (p n : Operand)
  | bad
  deriving Inhabited

structure LOper where
  dst : Option Nat
  op : LOp
  guard : Option (Nat × Bool)
  /-- in a region that draws: how many effects surely stand ahead; is it an effect itself? -/
  lo : Nat := 0
  eff : Bool := false
  deriving Inhabited

inductive LCode where
  | skip
  | region (ops : List LOper)
  | draw (ops : List LOper)
  | seq (a b : LCode)
  | cond (c : Operand) (a b : LCode)
  | block (id : Nat) (b : LCode)
  | loop (b : LCode)
  | exit (id : Nat)
  | scope (first : LCode) (l : Nat) (rest : LCode)
  | goto (l : Nat)
  | ret
  | rangeFunc (f : Operand) (params : List Nat) (assign body : LCode)
  | bad (why : String)
  deriving Inhabited

inductive LRes where
  | tmp (t : Nat)
  | cell1 (t : Nat)
  | cellN (t n : Nat)
  deriving Inhabited

structure LFunc where
  ntmps : Nat
  results : List LRes
  body : LCode
  deriving Inhabited

inductive LExit where
  | normal | ret
  | exit (id : Nat)
  | goto (l : Nat)
  deriving Inhabited

/-- A frame's temporaries. -/
abbrev Tm := Nat → Value

inductive LObj where
  | cells (c : List Value) (k : Kind) (e : TypeId)
  | map (es : List MapEntry) (clock : Nat)
  | siter (s : List UInt8) (pos : Nat)
  | loop (st : LoopState) (pending : Option LExit) (t : Tm) (params : List Nat) (assign body : LCode)
  | dead
  deriving Inhabited

/-- The logical heap: 'nx': the next number; 'b': the blocks, the newest first; below 'gn' the package-level variables. 'esc': no block below it names one that is newer than itself. -/
structure LHeap where
  nx : Nat
  b : List LObj
  esc : Nat
  gn : Nat
  g : List (Nat × LObj)
  deriving Inhabited

def undefV : Value := .tuple #[]

/-- The arguments in a frame, and nothing behind them. -/
def fr0 : List Value → Tm
  | [], _ => undefV
  | v :: _, 0 => v
  | _ :: l, n + 1 => fr0 l n

def fset (t : Tm) (n : Nat) (v : Value) : Tm := fun i => cond (Nat.beq i n) v (t i)

def ev (t : Tm) : Operand → Value
  | .tmp n => t n
  | .const v => v
  | .global g => .pointer (some ⟨g, 0, none⟩)
  | .func f => .func (.func f) #[] #[]

def lget : List LObj → Nat → Option LObj
  | [], _ => none
  | o :: _, 0 => some o
  | _ :: l, n + 1 => lget l n

def lset : List LObj → Nat → LObj → List LObj
  | [], _, _ => []
  | _ :: l, 0, o => o :: l
  | x :: l, n + 1, o => x :: lset l n o

def gget : List (Nat × LObj) → Nat → Option LObj
  | [], _ => none
  | (i, o) :: l, n => if i = n then some o else gget l n

def hget (h : LHeap) (id : Nat) : Option LObj :=
  if id < h.gn then gget h.g id else if id < h.nx then lget h.b (h.nx - 1 - id) else none

/-- A block of the call's own in another state; 'r': above this number it names nothing. -/
def hset (h : LHeap) (id : Nat) (o : LObj) (r : Nat) : LHeap :=
  { h with b := lset h.b (h.nx - 1 - id) o, esc := cond (Nat.ble r (id + 1) && Nat.blt r 1000000000) h.esc (min h.esc id) }

def hnew (h : LHeap) (o : LObj) : LHeap := { h with nx := h.nx + 1, b := o :: h.b }

/-- One above the greatest block that a value names; 0: none. -/
def top : Nat → Value → Nat
  | _, .pointer (some a) => a.block + 1
  | _, .slice (some a) _ _ => a.block + 1
  | _, .map (some r) => r + 1
  | n + 1, .iface _ v => top n v
  | n + 1, .agg c => tops n c.toList
  | n + 1, .tuple c => tops n c.toList
  | n + 1, .func (.yield l) a b => Nat.max (l + 1) (Nat.max (tops n a.toList) (tops n b.toList))
  | n + 1, .func _ a b => Nat.max (tops n a.toList) (tops n b.toList)
  | 0, .iface _ _ => 1000000000
  | 0, .agg _ => 1000000000
  | 0, .tuple _ => 1000000000
  | 0, .func _ _ _ => 1000000000
  | _, _ => 0
  where
  tops (n : Nat) : List Value → Nat
    | [] => 0
    | v :: l => Nat.max (top n v) (tops n l)
def topL (l : List Value) : Nat := top.tops 50 l

/-- The first n of what stands behind the first 'off': all of them, or nothing. -/
def cut (off n : Nat) (c : List Value) : Option (List Value) :=
  let r := (c.drop off).take n
  if r.length = n then some r else none

def put : List Value → Nat → List Value → Option (List Value)
  | c, _, [] => some c
  | [], _, _ :: _ => none
  | _ :: c, 0, v :: vs => (put c 0 vs).map (v :: ·)
  | x :: c, n + 1, vs => (put c n vs).map (x :: ·)

/-- A cell that holds what is not known is a tuple. -/
def known : Value → Bool
  | .tuple _ => false
  | _ => true

def rdN (h : LHeap) (a : Addr) (n : Nat) : Option (List Value) :=
  match hget h a.block with
  | some (.cells c _ _) => if a.spot.isSome then none else
    match cut a.off n c with
    | some r => if r.all known then some r else none
    | none => none
  | _ => none

def rd1 (h : LHeap) (a : Addr) : Option Value :=
  match hget h a.block with
  | some (.cells c _ _) => if a.spot.isSome then none else
    match c.drop a.off with
    | v :: _ => if known v then some v else none
    | [] => none
  | _ => none

def oneCell : Value → Bool
  | .agg _ | .tuple _ => false
  | _ => true

def wrN (h : LHeap) (a : Addr) (vs : List Value) : Option LHeap :=
  match hget h a.block with
  | some (.cells c .ro e) => if vs.isEmpty then some h else none
  | some (.cells c k e) => if a.spot.isSome || !vs.all oneCell then none else (put c a.off vs).map fun c' => hset h a.block (.cells c' k e) (topL vs)
  | _ => none

/-- A slice's address without the mark 'its capacity is just what it says'. -/
def bare (a : Addr) : Addr := { a with spot := none }
def exact (a : Addr) : Addr := { a with spot := some 0 }

def addA (a : Addr) (n : Nat) : Addr := if n = 0 then a else { a with off := a.off + n, spot := none }

def bytesLt : List UInt8 → List UInt8 → Bool
  | _, [] => false
  | [], _ :: _ => true
  | a :: x, b :: y => Nat.blt a.toNat b.toNat || (Nat.beq a.toNat b.toNat && bytesLt x y)

def bytesEq : List UInt8 → List UInt8 → Bool
  | [], [] => true
  | a :: x, b :: y => cond (Nat.beq a.toNat b.toNat) (bytesEq x y) false
  | _, _ => false

def strOp (op : BinOp) (x y : ByteArray) : Option Value :=
  let a := x.data.toList
  let b := y.data.toList
  match op with
  | .add => cond (Nat.ble (a.length + b.length) 140737488355328) (some (.string ⟨⟨a ++ b⟩⟩)) none
  | .eql => some (.bool (bytesEq a b))
  | .neq => some (.bool !(bytesEq a b))
  | .lss => some (.bool (bytesLt a b))
  | .leq => some (.bool (bytesLt a b || bytesEq a b))
  | .gtr => some (.bool !(bytesLt a b || bytesEq a b))
  | .geq => some (.bool !(bytesLt a b))
  | _ => none

def ilt : Int → Int → Bool
  | .ofNat m, .ofNat n => Nat.blt m n
  | .ofNat _, .negSucc _ => false
  | .negSucc _, .ofNat _ => true
  | .negSucc m, .negSucc n => Nat.blt n m

def ieq : Int → Int → Bool
  | .ofNat m, .ofNat n => Nat.beq m n
  | .negSucc m, .negSucc n => Nat.beq m n
  | _, _ => false

def wrapS (m h : Int) (x : Int) : Int := cond (ilt (Int.emod x m) h) (Int.emod x m) (Int.sub (Int.emod x m) m)

/-- As the model's 'IntKind.wrap', its powers of two written out. -/
def wr : IntKind → Int → Int
  | .u8, x => Int.emod x (.ofNat 256)
  | .u16, x => Int.emod x (.ofNat 65536)
  | .u32, x => Int.emod x (.ofNat 4294967296)
  | .u64, x => Int.emod x (.ofNat 18446744073709551616)
  | .i8, x => wrapS (.ofNat 256) (.ofNat 128) x
  | .i16, x => wrapS (.ofNat 65536) (.ofNat 32768) x
  | .i32, x => wrapS (.ofNat 4294967296) (.ofNat 2147483648) x
  | .i64, x => wrapS (.ofNat 18446744073709551616) (.ofNat 9223372036854775808) x

/-- A number's bits. -/
def ub : IntKind → Int → Nat
  | .u8, x | .i8, x => (Int.emod x (.ofNat 256)).toNat
  | .u16, x | .i16, x => (Int.emod x (.ofNat 65536)).toNat
  | .u32, x | .i32, x => (Int.emod x (.ofNat 4294967296)).toNat
  | .u64, x | .i64, x => (Int.emod x (.ofNat 18446744073709551616)).toNat

def ones : IntKind → Nat
  | .u8 | .i8 => 255
  | .u16 | .i16 => 65535
  | .u32 | .i32 => 4294967295
  | .u64 | .i64 => 18446744073709551615

def width : IntKind → Nat
  | .u8 | .i8 => 8
  | .u16 | .i16 => 16
  | .u32 | .i32 => 32
  | .u64 | .i64 => 64

def intOp (op : BinOp) (k : IntKind) (x y : Int) : Option Value :=
  match op with
  | .add => some (.int k (wr k (Int.add x y)))
  | .sub => some (.int k (wr k (Int.sub x y)))
  | .mul => some (.int k (wr k (Int.mul x y)))
  | .quo => cond (ieq y (.ofNat 0)) none (some (.int k (wr k (Int.tdiv x y))))
  | .rem => cond (ieq y (.ofNat 0)) none (some (.int k (Int.tmod x y)))
  | .and => some (.int k (wr k (.ofNat (Nat.land (ub k x) (ub k y)))))
  | .or => some (.int k (wr k (.ofNat (Nat.lor (ub k x) (ub k y)))))
  | .xor => some (.int k (wr k (.ofNat (Nat.xor (ub k x) (ub k y)))))
  | .andNot => some (.int k (wr k (.ofNat (Nat.land (ub k x) (Nat.xor (ones k) (ub k y))))))
  | .eql => some (.bool (ieq x y))
  | .neq => some (.bool (!ieq x y))
  | .lss => some (.bool (ilt x y))
  | .leq => some (.bool (!ilt y x))
  | .gtr => some (.bool (ilt y x))
  | .geq => some (.bool (!ilt x y))
  | _ => none

/-- A shift's count. -/
def shc (k : IntKind) (y : Int) : Nat := cond (Nat.ble (width k) y.toNat) (width k) y.toNat

def shiftOp (op : BinOp) (k : IntKind) (x y : Int) : Option Value :=
  cond (ilt y (.ofNat 0)) none
  (match op with
  | .shl => some (.int k (wr k (Int.mul x (.ofNat (Nat.pow 2 (shc k y))))))
  | .shr => some (.int k (Int.fdiv x (.ofNat (Nat.pow 2 (shc k y)))))
  | _ => none)

def sameK : IntKind → IntKind → Bool
  | .i8, .i8 | .i16, .i16 | .i32, .i32 | .i64, .i64 | .u8, .u8 | .u16, .u16 | .u32, .u32 | .u64, .u64 => true
  | _, _ => false

def intBin (op : BinOp) (k k' : IntKind) (x y : Int) : Option Value :=
  match op with
  | .shl => shiftOp .shl k x y
  | .shr => shiftOp .shr k x y
  | op => cond (sameK k k') (intOp op k x y) none

def binV (op : BinOp) (x y : Value) : Option Value :=
  match x, y with
  | .int k a, .int k' b => intBin op k k' a b
  | .string a, .string b => strOp op a b
  | _, _ => none

def unV (op : UnOp) (x : Value) : Option Value :=
  match op, x with
  | .neg, .int k n => some (.int k (wr k (Int.sub (.ofNat 0) n)))
  | .xor, .int k n => some (.int k (wr k (.ofNat (Nat.xor (ones k) (ub k n)))))
  | .not, .bool b => some (.bool !b)
  | _, _ => none

/-- Two values the same, seen without going anywhere. -/
def same : Nat → Value → Value → Bool
  | _, .bool a, .bool b => a == b
  | _, .int j a, .int k b => sameK j k && ieq a b
  | _, .string a, .string b => bytesEq a.data.toList b.data.toList
  | _, .pointer a, .pointer b => a == b
  | _, .slice a n m, .slice b n' m' => a == b && n == n' && m == m'
  | _, .map a, .map b => a == b
  | _, .nilIface, .nilIface => true
  | _, .nilFunc, .nilFunc => true
  | n + 1, .iface t v, .iface u w => t == u && same n v w
  | n + 1, .agg a, .agg b => all n a.toList b.toList
  | n + 1, .tuple a, .tuple b => all n a.toList b.toList
  | n + 1, .func (.func f) a b, .func (.func g) a' b' => f == g && all n a.toList a'.toList && all n b.toList b'.toList
  | _, _, _ => false
  where
  all (n : Nat) : List Value → List Value → Bool
    | [], [] => true
    | x :: xs, y :: ys => same n x y && all n xs ys
    | _, _ => false

def primEq (k : PK) (x y : Value) : Option Bool :=
  match k, x, y with
  | .b, .bool a, .bool b => some (a == b)
  | .n, .int j a, .int k b => cond (sameK j k) (some (ieq a b)) none
  | .s, .string a, .string b => some (bytesEq a.data.toList b.data.toList)
  | _, _, _ => none

def cellsEq (a b : List Value) : List (Nat × PK) → Option Bool
  | [] => some true
  | o :: os =>
    match (a.drop o.1).head?, (b.drop o.1).head? with
    | some x, some y =>
      match primEq o.2 x y with
      | some true => cellsEq a b os
      | some false => some false
      | none => none
    | _, _ => none

def keyEq (ks : KeyK) (a b : Value) : Option Bool :=
  match ks, a, b with
  | .prim k, a, b => primEq k a b
  | .agg _ os, .agg x, .agg y => cellsEq x.toList y.toList os
  | _, _, _ => none

def eqV : EqK → Value → Value → Option Bool
  | .bl, .bool a, .bool b => some (a == b)
  | .agg os, .agg x, .agg y => cellsEq x.toList y.toList os
  | .ptr, .pointer none, .pointer b => some b.isNone
  | .ptr, .pointer _, .pointer none => some false
  | .ptr, .pointer (some a), .pointer (some b) => if a.block = b.block then some (a == b) else none
  | .slc, .slice none _ _, .slice b _ _ => some b.isNone
  | .slc, .slice _ _ _, .slice none _ _ => some false
  | .mp, .map none, .map b => some b.isNone
  | .mp, .map _, .map none => some false
  | .fn, .nilFunc, .nilFunc => some true
  | .fn, .nilFunc, .func _ _ _ => some false
  | .fn, .func _ _ _, .nilFunc => some false
  | .iface, .nilIface, .nilIface => some true
  | .iface, .nilIface, .iface _ _ => some false
  | .iface, .iface _ _, .nilIface => some false
  | .iface, .iface t _, .iface u _ => if t = u then none else some false
  | _, _, _ => none

def toBytes : List Value → Option (List UInt8)
  | [] => some []
  | .int .u8 n :: l => (toBytes l).map (UInt8.ofNat n.toNat :: ·)
  | _ :: _ => none

def fillL : List Value → List (Nat × Nat × Value) → Option (List Value)
  | c, [] => some c
  | c, (off, n, v) :: r =>
    cond (Nat.beq v.cells.toList.length n && Nat.ble (off + n) c.length)
      (match put c off v.cells.toList with
       | some d => fillL d r
       | none => none) none

/-- An index, or a bound, below the second one's successor. -/
def inL : Int → Nat → Bool
  | .ofNat i, n => Nat.blt i n
  | .negSucc _, _ => false

def boundL (x : Value) (y : Nat) : Option Nat :=
  match x with
  | .int _ i => cond (inL i (y + 1)) (some i.toNat) none
  | _ => none

def ob {α β : Type} (o : Option α) (k : α → Option β) : Option β :=
  match o with
  | some a => k a
  | none => none

def chk {α : Type} (b : Bool) (k : Option α) : Option α :=
  match b with
  | true => k
  | false => none

def bounds (len cap : Nat) (lo hi mx : Option Value) : Option (Nat × Nat × Nat) :=
  ob (match mx with | some v => boundL v cap | none => some cap) fun m =>
  ob (match hi, mx with | some v, _ => boundL v m | none, none => some len | none, some _ => none) fun h =>
  ob (match lo with | some v => boundL v h | none => some 0) fun l => some (l, h, m)

def rep (n : Nat) (zero : List Value) : List Value := (List.replicate n zero).flatten

/-- What is appended: as cells. -/
def srcCells (h : LHeap) (sz : Nat) (zero : List Value) (zeros : Bool) (x : Value) : Option (Nat × List Value) :=
  match zeros, x with
  | false, .slice none 0 _ => some (0, [])
  | false, .slice (some a) n _ => (rdN h (bare a) (n * sz)).map (n, ·)
  | false, .string s => cond (Nat.beq sz 1) (some (s.data.toList.length, s.data.toList.map fun b => .int .u8 b.toNat)) none
  | true, .int _ n => cond (inL n 1099511627776) (some (n.toNat, rep n.toNat zero)) none
  | _, _ => none

def appNew (h : LHeap) (sz : Nat) (e : TypeId) (n : Nat) (c : List Value) : Value × LHeap :=
  (.slice (some ⟨h.nx, 0, none⟩) n n, hnew h (.cells c (.wide sz) e))

def appRoom (h : LHeap) (a : Addr) (len cap n sz : Nat) (new c : List Value) (k : Kind) (e : TypeId) : Option (Value × LHeap) :=
  match k with
  | .ro => cond (Nat.beq n 0) (some (.slice (some a) len cap, h)) none
  | k => ob (put c (a.off + len * sz) new) fun c' => some (.slice (some a) (len + n) cap, hset h a.block (.cells c' k e) (topL new))

def isW : Kind → Nat → Bool
  | .wide a, b => Nat.beq a b
  | _, _ => false

def appGrow (h : LHeap) (a : Addr) (len n sz : Nat) (new : List Value) (k : Kind) (e e' : TypeId) : Option (Value × LHeap) :=
  ob (rdN h (bare a) (len * sz)) fun old =>
  cond (a.spot.isSome || !k.isWide) (some (appNew h sz e (len + n) (old ++ new)))
    (cond (isW k sz && Nat.beq e' e) (some (appNew (hset h a.block .dead 0) sz e (len + n) (old ++ new))) none)

def appendL (h : LHeap) (sz bytes : Nat) (e : TypeId) (zero : List Value) (zeros : Bool) (s x : Value) : Option (Value × LHeap) :=
  ob (srcCells h sz zero zeros x) fun p =>
  chk (Nat.ble (p.1 * bytes) 70368744177664 && p.2.all oneCell)
  (match s with
   | .slice none 0 0 => cond (Nat.beq p.1 0) (some (.slice none 0 0, h)) (some (appNew h sz e p.1 p.2))
   | .slice (some a) len cap =>
     match hget h a.block with
     | some (.cells c k e') =>
       cond (Nat.ble (len + p.1) cap) (appRoom h a len cap p.1 sz p.2 c k e')
         (chk (Nat.ble ((len + p.1) * bytes) 70368744177664) (appGrow h a len p.1 sz p.2 k e e'))
     | _ => none
   | _ => none)

def findK (ks : KeyK) (k : Value) : List MapEntry → Nat → Option (Option (Nat × Value))
  | [], _ => some none
  | e :: es, i =>
    match keyEq ks k e.key with
    | some true => some (some (i, e.val))
    | some false => findK ks k es (i + 1)
    | none => none

def esSet : List MapEntry → Nat → (MapEntry → MapEntry) → List MapEntry
  | [], _, _ => []
  | e :: l, 0, f => f e :: l
  | e :: l, n + 1, f => e :: esSet l n f

def findBorn (es : List MapEntry) (n : Int) : Nat → Option Nat
  | i => match es with
    | [] => none
    | e :: r => cond (ieq (.ofNat e.born) n) (some i) (findBorn r n (i + 1))

def min2 (x y : Value) : Option Value :=
  match x, y with
  | .int k a, .int _ b => some (.int k (cond (ilt b a) b a))
  | _, _ => none
def max2 (x y : Value) : Option Value :=
  match x, y with
  | .int k a, .int _ b => some (.int k (cond (ilt a b) b a))
  | _, _ => none
def fold2 (f : Value → Value → Option Value) : Value → List Value → Option Value
  | x, [] => some x
  | x, y :: l => do fold2 f (← f x y) l

def oev (t : Tm) (x : Option Operand) : Option Value := x.map (ev t)
def lev (t : Tm) (x : List Operand) : List Value := x.map (ev t)

abbrev Res := Option (Value × LHeap)
abbrev CallF := Fn → List Value → LHeap → Res

def oc {α : Type} (v : Value) (a b : Option α) : Option α :=
  match v with
  | .bool true => a
  | .bool false => b
  | _ => none

def wantedV (v : Value) (b : Bool) : Bool :=
  match v, b with
  | .bool true, true => true
  | .bool false, false => true
  | _, _ => false

/-- A guarded operation. -/
def og (b : Bool) (f : (Value → LHeap → Res) → Res) (h : LHeap) (k : Value → LHeap → Res) : Res :=
  match b with
  | true => f k
  | false => k undefV h

def newV (h : LHeap) : Value := .pointer (some ⟨h.nx, 0, none⟩)

def oBox (n : Nat) (e : TypeId) (x : Value) (h : LHeap) (k : Value → LHeap → Res) : Res :=
  chk (Nat.beq x.cells.toList.length n) (k (newV h) (hnew h (.cells x.cells.toList .fixed e)))

def oLoad1 (a : Value) (h : LHeap) : Option Value :=
  match a with
  | .pointer (some a) => rd1 h a
  | _ => none

def oLoadN (n : Nat) (a : Value) (h : LHeap) : Option Value :=
  match a with
  | .pointer (some a) => (rdN h a n).map fun c => .agg ⟨c⟩
  | _ => none

def oStore (n : Nat) (a v : Value) (h : LHeap) : Option LHeap :=
  match a with
  | .pointer (some a) => cond (Nat.beq v.cells.toList.length n) (wrN h a v.cells.toList) none
  | _ => none

def oNil (x : Value) : Option Value :=
  match x with
  | .pointer (some a) => some (.pointer (some a))
  | .func (.func f) a b => some (.func (.func f) a b)
  | .func (.yield l) a b => some (.func (.yield l) a b)
  | .slice a b c => some (.slice a b c)
  | .map a => some (.map a)
  | _ => none

def oConv (c : LConv) (x : Value) (h : LHeap) (k : Value → LHeap → Res) : Res :=
  match c, x with
  | .int q, .int _ n => k (.int q (wr q n)) h
  | .str, .string s => k (.string s) h
  | .strBytes e, .string s =>
    chk (!s.data.toList.isEmpty)
      (k (.slice (some ⟨h.nx, 0, none⟩) s.data.toList.length s.data.toList.length) (hnew h (.cells (s.data.toList.map fun b => .int .u8 b.toNat) (.wide 1) e)))
  | .bytesStr, .slice none _ _ => k (.string ⟨⟨[]⟩⟩) h
  | .bytesStr, .slice (some a) n _ => ob (rdN h (bare a) n) fun c => ob (toBytes c) fun s => k (.string ⟨⟨s⟩⟩) h
  | .toUnsafe _ _, .pointer none => k (.pointer none) h
  | .toUnsafe e n, .pointer (some a) => match hget h a.block with
    | some (.cells c .fixed e') => chk (Nat.beq a.off 0 && Nat.beq e e' && Nat.beq c.length n) (k (.pointer (some a)) h)
    | _ => none
  | .ofUnsafe _ _, .pointer none => k (.pointer none) h
  | .ofUnsafe e n, .pointer (some a) => match hget h a.block with
    | some (.cells c .fixed e') => chk (Nat.beq a.off 0 && Nat.beq e e' && Nat.beq c.length n) (k (.pointer (some a)) h)
    | _ => none
  | _, _ => none

def oMkSlice (sz bytes : Nat) (e : TypeId) (zero : List Value) (l c : Value) (h : LHeap) (k : Value → LHeap → Res) : Res :=
  match l, c with
  | .int .i64 l, .int .i64 c =>
    chk (inL l (c.toNat + 1) && inL c 140737488355329 && Nat.ble (bytes * c.toNat) 140737488355328 && Nat.beq zero.length sz)
      (k (.slice (some ⟨h.nx, 0, none⟩) l.toNat c.toNat) (hnew h (.cells (rep c.toNat zero) .fixed e)))
  | _, _ => none

def oSliceStr (x : Value) (lo hi : Option Value) : Option Value :=
  match x with
  | .string s => ob (bounds s.data.toList.length s.data.toList.length lo hi none) fun b =>
      some (.string ⟨⟨(s.data.toList.drop b.1).take (b.2.1 - b.1)⟩⟩)
  | _ => none

/-- A slice's head, cut: 'sure': its capacity is just what it says. -/
def cutHead (sz : Nat) (a : Addr) (b : Nat × Nat × Nat) (mx : Option Value) (q : Kind) : Option Value :=
  match a.spot, q with
  | none, .wide sz' => cond (Nat.beq sz' sz)
      (match mx with
       | none => some (.slice (some (addA a (b.1 * sz))) (b.2.1 - b.1) (b.2.2 - b.1))
       | some _ => some (.slice (some (exact (cond (Nat.beq b.2.2 b.1) a (addA a (b.1 * sz))))) (b.2.1 - b.1) (b.2.2 - b.1))) none
  | none, _ => some (.slice (some (cond (Nat.beq b.2.2 b.1) a (addA a (b.1 * sz)))) (b.2.1 - b.1) (b.2.2 - b.1))
  | some _, _ => some (.slice (some (exact (cond (Nat.beq b.2.2 b.1) a (addA a (b.1 * sz))))) (b.2.1 - b.1) (b.2.2 - b.1))

def oSlice (sz : Nat) (x : Value) (lo hi mx : Option Value) (h : LHeap) : Option Value :=
  match x with
  | .slice none len cap => cond (Nat.ble len cap) (ob (bounds len cap lo hi mx) fun b => some (.slice none (b.2.1 - b.1) (b.2.2 - b.1))) none
  | .slice (some a) len cap => cond (Nat.ble len cap) (ob (bounds len cap lo hi mx) fun b =>
    match hget h a.block with
    | some (.cells _ q _) => cutHead sz a b mx q
    | _ => none) none
  | _ => none

def oSliceArr (n sz : Nat) (x : Value) (lo hi mx : Option Value) (h : LHeap) : Option Value :=
  match x with
  | .pointer (some a) => ob (bounds n n lo hi mx) fun b =>
    match hget h a.block with
    | some (.cells _ q _) =>
      match q with
      | .wide _ => some (.slice (some (exact (cond (Nat.beq b.2.2 b.1) a (addA a (b.1 * sz))))) (b.2.1 - b.1) (b.2.2 - b.1))
      | _ => some (.slice (some (cond (Nat.beq b.2.2 b.1) a (addA a (b.1 * sz)))) (b.2.1 - b.1) (b.2.2 - b.1))
    | _ => none
  | _ => none

def oFieldAddr (off : Nat) (x : Value) : Option Value :=
  match x with
  | .pointer (some a) => some (.pointer (some (addA a off)))
  | _ => none

def oField1 (off : Nat) (x : Value) : Option Value :=
  match x with
  | .agg c => (c.toList.drop off).head?
  | _ => none

def oFieldN (off n : Nat) (x : Value) : Option Value :=
  match x with
  | .agg c => (cut off n c.toList).map fun c => .agg ⟨c⟩
  | _ => none

def oIndexAddr (sz : Nat) (x i : Value) : Option Value :=
  match x, i with
  | .slice (some a) len _, .int _ i => cond (inL i len) (some (.pointer (some (addA (bare a) (i.toNat * sz))))) none
  | _, _ => none

def oIndexArr (n sz : Nat) (x i : Value) : Option Value :=
  match x, i with
  | .pointer (some a), .int _ i => cond (inL i n) (some (.pointer (some (addA a (i.toNat * sz))))) none
  | _, _ => none

def oIndexStr (x i : Value) : Option Value :=
  match x, i with
  | .string s, .int _ i => cond (inL i s.data.toList.length) ((s.data.toList.drop i.toNat).head?.map fun b => .int .u8 b.toNat) none
  | _, _ => none

def oIndexAgg (n sz : Nat) (agg : Bool) (x i : Value) : Option Value :=
  match x, i with
  | .agg c, .int _ i => cond (inL i n)
      (cond agg ((cut (i.toNat * sz) sz c.toList).map fun c => .agg ⟨c⟩) (c.toList.drop (i.toNat * sz)).head?) none
  | _, _ => none

def mapOf (m : Value) (h : LHeap) : Option (Nat × List MapEntry × Nat) :=
  match m with
  | .map (some r) => match hget h r with
    | some (.map es clock) => some (r, es, clock)
    | _ => none
  | _ => none

/-- Has the key all the cells that are compared? -/
def keyOk (ks : KeyK) (k : Value) : Bool :=
  match ks, k with
  | .prim _, _ => true
  | .agg n _, .agg c => Nat.beq c.toList.length n
  | _, _ => false

/-- Has the entry's key all its cells? -/
def oldOk (ks : KeyK) (es : List MapEntry) (i : Nat) : Bool :=
  match (es.drop i).head? with
  | some e => keyOk ks e.key
  | none => false

def oLookup (ks : KeyK) (zero : Value) (ok : Bool) (m k : Value) (h : LHeap) : Option Value :=
  chk (keyOk ks k) (match m with
  | .map none => some (cond ok (.tuple #[zero, .bool false]) zero)
  | m => ob (mapOf m h) fun x => ob (findK ks k x.2.1 0) fun y =>
    match y with
    | some (_, v) => some (cond ok (.tuple #[v, .bool true]) v)
    | none => some (cond ok (.tuple #[zero, .bool false]) zero))

def oMapUpdate (ks : KeyK) (m k v : Value) (h : LHeap) : Option LHeap :=
  chk (keyOk ks k) <| ob (mapOf m h) fun x => ob (findK ks k x.2.1 0) fun y =>
    match y with
    | some (i, _) => chk (oldOk ks x.2.1 i) (some (hset h x.1 (.map (esSet x.2.1 i fun e => { e with key := k, val := v }) x.2.2) (topL [k, v])))
    | none => some (hset h x.1 (.map (x.2.1 ++ [{ key := k, val := v, born := x.2.2 }]) (x.2.2 + 1)) (topL [k, v]))

def oMapEntry (ks : KeyK) (zero m k : Value) (h : LHeap) : Option (Value × LHeap) :=
  chk (keyOk ks k) <| ob (mapOf m h) fun x => ob (findK ks k x.2.1 0) fun y =>
    match y with
    | some (i, v) => chk (oldOk ks x.2.1 i) (some (.tuple #[v, .int .i64 (((x.2.1.drop i).head?.map (·.born)).getD 0)], hset h x.1 (.map (esSet x.2.1 i fun e => { e with key := k }) x.2.2) (topL [k])))
    | none => some (.tuple #[zero, .int .i64 x.2.2], hset h x.1 (.map (x.2.1 ++ [{ key := k, val := zero, born := x.2.2 }]) (x.2.2 + 1)) (topL [k, zero]))

def oEntryStore (m s v : Value) (h : LHeap) : Option LHeap :=
  match s with
  | .int _ n => ob (mapOf m h) fun x => ob (findBorn x.2.1 n 0) fun i =>
      some (hset h x.1 (.map (esSet x.2.1 i fun e => { e with val := v }) x.2.2) (topL [v]))
  | _ => none

def oExtract (x : Value) (i : Nat) : Option Value :=
  match x with
  | .tuple vs => (vs.toList.drop i).head?
  | _ => none

def oCall (call : CallF) (f : Value) (args : List Value) (h : LHeap) : Res :=
  match f with
  | .func f a b => call f (a.toList ++ (args ++ b.toList)) h
  | _ => none

def oLen (str : Bool) (x : Value) : Option Value :=
  match str, x with
  | true, .string s => some (.int .i64 (.ofNat s.data.toList.length))
  | false, .slice _ n _ => some (.int .i64 (.ofNat n))
  | _, _ => none

def oLenMap (x : Value) (h : LHeap) : Option Value :=
  match x with
  | .map none => some (.int .i64 0)
  | m => (mapOf m h).map fun x => .int .i64 (.ofNat x.2.1.length)

def oCap (x : Value) (h : LHeap) : Option Value :=
  match x with
  | .slice none _ n => some (.int .i64 (.ofNat n))
  | .slice (some a) _ n => match hget h a.block with
    | some (.cells _ q _) => cond (q.isWide && a.spot.isNone) none (some (.int .i64 (.ofNat n)))
    | _ => none
  | _ => none

def lenSrc : Value → Option Nat
  | .slice _ n _ => some n
  | .string s => some s.data.toList.length
  | _ => none

def cpCells (h : LHeap) (sz n : Nat) : Value → Option (List Value)
  | .slice none _ _ => some []
  | .slice (some a) _ _ => rdN h (bare a) (n * sz)
  | .string s => cond (Nat.beq sz 1) (some ((s.data.toList.take n).map fun b => .int .u8 b.toNat)) none
  | _ => none

def nmin (a b : Nat) : Nat := cond (Nat.ble a b) a b

def oCopy (sz : Nat) (d s : Value) (h : LHeap) : Option (Value × LHeap) :=
  match d with
  | .slice base dl _ => ob (lenSrc s) fun sl => ob (cpCells h sz (nmin sl dl) s) fun new =>
    match base with
    | none => some (.int .i64 (.ofNat (nmin sl dl)), h)
    | some a => (wrN h (bare a) new).map (.int .i64 (.ofNat (nmin sl dl)), ·)
  | _ => none

def oMin : List Value → Option Value
  | x :: r => fold2 min2 x r
  | [] => none
def oMax : List Value → Option Value
  | x :: r => fold2 max2 x r
  | [] => none

def oClear (zero : List Value) (x : Value) (h : LHeap) : Option LHeap :=
  match x with
  | .slice none _ _ => some h
  | .slice (some a) n _ => cond (Nat.beq n 0) (some h) (wrN h (bare a) (rep n zero))
  | _ => none

def oClearMap (x : Value) (h : LHeap) : Option LHeap :=
  match x with
  | .map none => some h
  | m => ob (mapOf m h) fun x => some (hset h x.1 (.map [] x.2.2) 0)

def oDelete (ks : KeyK) (m k : Value) (h : LHeap) : Option LHeap :=
  chk (keyOk ks k) (match m with
  | .map none => some h
  | m => ob (mapOf m h) fun x => ob (findK ks k x.2.1 0) fun y =>
    match y with
    | some (i, _) => some (hset h x.1 (.map (x.2.1.eraseIdx i) x.2.2) 0)
    | none => some h)

def oUnsafeData (x : Value) : Option Value :=
  match x with
  | .slice none _ _ => some (.pointer none)
  | .slice (some a) n m => cond (Nat.beq n 0 || Nat.beq m 0) none (some (.pointer (some (bare a))))
  | _ => none

def oUnsafeStr (e : TypeId) (p n : Value) (h : LHeap) : Option (Value × LHeap) :=
  match p, n with
  | .pointer none, .int _ (.ofNat 0) => some (.string ⟨⟨[]⟩⟩, h)
  | .pointer (some a), .int _ (.ofNat (n + 1)) =>
    match hget h a.block with
    | some (.cells _ (.wide sz) e') => chk (Nat.beq e e' && Nat.ble n 1099511627776) (ob (rdN h a (n + 1)) fun c' => ob (toBytes c') fun s => some (.string ⟨⟨s⟩⟩, hset h a.block .dead 0))
    | _ => none
  | _, _ => none

/-- One operation. 'call': what a function answers. -/
def opK (call : CallF) (t : Tm) (h : LHeap) (op : LOp) (k : Value → LHeap → Res) : Res :=
  match op with
  | .move x => k (ev t x) h
  | .pick c a b => oc (ev t c) (k (ev t a) h) (k (ev t b) h)
  | .alloc zero e => k (newV h) (hnew h (.cells zero .fixed e))
  | .box n e x => oBox n e (ev t x) h k
  | .build zero parts => ob (fillL zero (parts.map fun p => (p.1, p.2.1, ev t p.2.2))) fun c => k (.agg ⟨c⟩) h
  | .buildSlice len _ e zero parts => ob (fillL zero (parts.map fun p => (p.1, p.2.1, ev t p.2.2))) fun c =>
      k (.slice (some ⟨h.nx, 0, none⟩) len len) (hnew h (.cells c .fixed e))
  | .load1 a => ob (oLoad1 (ev t a) h) fun v => k v h
  | .loadN n a => ob (oLoadN n (ev t a) h) fun v => k v h
  | .store n a v => ob (oStore n (ev t a) (ev t v) h) fun h => k undefV h
  | .nilCheck x => ob (oNil (ev t x)) fun v => k v h
  | .bin op x y => ob (binV op (ev t x) (ev t y)) fun v => k v h
  | .eq neg q x y => ob (eqV q (ev t x) (ev t y)) fun b => k (.bool (cond neg (!b) b)) h
  | .un op x => ob (unV op (ev t x)) fun v => k v h
  | .conv c x => oConv c (ev t x) h k
  | .mkIface u x => k (.iface u (ev t x)) h
  | .mkFunc fn a b => k (.func fn ⟨lev t a⟩ ⟨lev t b⟩) h
  | .mkMap => k (.map (some h.nx)) (hnew h (.map [] 0))
  | .mkSlice sz bytes e zero l c => oMkSlice sz bytes e zero (ev t l) (ev t c) h k
  | .sliceStr x lo hi => ob (oSliceStr (ev t x) (oev t lo) (oev t hi)) fun v => k v h
  | .slice sz x lo hi mx => ob (oSlice sz (ev t x) (oev t lo) (oev t hi) (oev t mx) h) fun v => k v h
  | .sliceArr n sz x lo hi mx => ob (oSliceArr n sz (ev t x) (oev t lo) (oev t hi) (oev t mx) h) fun v => k v h
  | .fieldAddr off x => ob (oFieldAddr off (ev t x)) fun v => k v h
  | .field1 off x => ob (oField1 off (ev t x)) fun v => k v h
  | .fieldN off n x => ob (oFieldN off n (ev t x)) fun v => k v h
  | .indexAddr sz x i => ob (oIndexAddr sz (ev t x) (ev t i)) fun v => k v h
  | .indexArr n sz x i => ob (oIndexArr n sz (ev t x) (ev t i)) fun v => k v h
  | .indexStr x i => ob (oIndexStr (ev t x) (ev t i)) fun v => k v h
  | .indexAgg n sz agg x i => ob (oIndexAgg n sz agg (ev t x) (ev t i)) fun v => k v h
  | .lookup ks zero ok m q => ob (oLookup ks zero ok (ev t m) (ev t q) h) fun v => k v h
  | .mapUpdate ks m q v => ob (oMapUpdate ks (ev t m) (ev t q) (ev t v) h) fun h => k undefV h
  | .mapEntry ks zero m q => ob (oMapEntry ks zero (ev t m) (ev t q) h) fun p => k p.1 p.2
  | .entryStore m s v => ob (oEntryStore (ev t m) (ev t s) (ev t v) h) fun h => k undefV h
  | .rangeStr _ => none
  | .nextStr _ => none
  | .extract x i => ob (oExtract (ev t x) i) fun v => k v h
  | .call f args => ob (oCall call (ev t f) (lev t args) h) fun p => k p.1 p.2
  | .len str x => ob (oLen str (ev t x)) fun v => k v h
  | .lenArr n => k (.int .i64 (.ofNat n)) h
  | .lenMap x => ob (oLenMap (ev t x) h) fun v => k v h
  | .cap x => ob (oCap (ev t x) h) fun v => k v h
  | .append sz bytes e zero zeros s x => ob (appendL h sz bytes e zero zeros (ev t s) (ev t x)) fun p => k p.1 p.2
  | .copy sz d s => ob (oCopy sz (ev t d) (ev t s) h) fun p => k p.1 p.2
  | .min xs => ob (oMin (lev t xs)) fun v => k v h
  | .max xs => ob (oMax (lev t xs)) fun v => k v h
  | .clearSlice zero x => ob (oClear zero (ev t x) h) fun h => k undefV h
  | .clearMap x => ob (oClearMap (ev t x) h) fun h => k undefV h
  | .delete ks m q => ob (oDelete ks (ev t m) (ev t q) h) fun h => k undefV h
  | .unsafeData x => ob (oUnsafeData (ev t x)) fun v => k v h
  | .unsafeStr e p n => ob (oUnsafeStr e (ev t p) (ev t n) h) fun p => k p.1 p.2
  | .bad => none

def opV (call : CallF) (t : Tm) (h : LHeap) (op : LOp) : Res := opK call t h op fun v h => some (v, h)

def dset (t : Tm) : Option Nat → Value → Tm
  | some n, v => fset t n v
  | none, _ => t

def opsK (call : CallF) : Tm → LHeap → List LOper → (Tm → LHeap → Res) → Res
  | t, h, [], k => k t h
  | t, h, o :: os, k =>
    match o.guard with
    | none => opK call t h o.op fun v h => opsK call (dset t o.dst v) h os k
    | some (n, b) => og (wantedV (t n) b) (opK call t h o.op) h fun v h => opsK call (dset t o.dst v) h os k

/-- Does the operation look at a block? -/
def reads : LOp → Bool
  | .load1 _ | .loadN _ _ | .lookup .. | .lenMap _ | .slice .. | .sliceArr .. | .cap _ => true
  | .conv .bytesStr _ | .conv (.toUnsafe _ _) _ | .conv (.ofUnsafe _ _) _ => true
  | _ => false

/-- What an operation names. -/
def LOp.opds : LOp → List Operand
  | .move x | .box _ _ x | .load1 x | .loadN _ x | .nilCheck x | .un _ x | .conv _ x | .mkIface _ x | .fieldAddr _ x | .field1 _ x | .fieldN _ _ x | .rangeStr x | .nextStr x | .extract x _
  | .len _ x | .lenMap x | .cap x | .clearSlice _ x | .clearMap x | .unsafeData x => [x]
  | .pick c a b => [c, a, b]
  | .alloc _ _ | .mkMap | .lenArr _ | .bad => []
  | .build _ ps | .buildSlice _ _ _ _ ps => ps.map (·.2.2)
  | .store _ a v | .bin _ a v | .eq _ _ a v | .mkSlice _ _ _ _ a v | .indexAddr _ a v | .indexArr _ _ a v | .indexStr a v | .indexAgg _ _ _ a v | .lookup _ _ _ a v | .mapEntry _ _ a v | .append _ _ _ _ _ a v
  | .copy _ a v | .delete _ a v | .unsafeStr _ a v => [a, v]
  | .mkFunc _ a b => a ++ b
  | .sliceStr x a b => x :: (a.toList ++ b.toList)
  | .slice _ x a b c | .sliceArr _ _ x a b c => x :: (a.toList ++ (b.toList ++ c.toList))
  | .mapUpdate _ m k v | .entryStore m k v => [m, k, v]
  | .call f as => f :: as
  | .min xs | .max xs => xs

/-- Does it do more than look, or make one block? -/
def LOp.acts : LOp → Bool
  | .store .. | .mapUpdate .. | .mapEntry .. | .entryStore .. | .call .. | .append .. | .copy .. | .clearSlice .. | .clearMap .. | .delete .. | .unsafeStr .. | .rangeStr .. | .nextStr .. | .bad => true
  | _ => false

/-- 'snaps': the heaps ahead of each effect of this region, the newest first: does a read answer the same in each of the first n? -/
def stays (call : CallF) (t : Tm) (op : LOp) (v : Value) : Nat → List LHeap → Bool
  | 0, _ => true
  | _ + 1, [] => true
  | n + 1, h :: hs => (match opV call t h op with
      | some (u, _) => same 100 u v
      | none => false) && stays call t op v n hs

def drawK (call : CallF) : Tm → LHeap → List LOper → Nat → List LHeap → (Tm → LHeap → Res) → Res
  | t, h, [], _, _, k => k t h
  | t, h, o :: os, n, snaps, k =>
    match o.eff, reads o.op with
    | true, _ => (match o.guard with
      | none => opK call t h o.op fun v h' => chk (Nat.ble h.nx h'.nx && Nat.beq h'.gn h.gn) (drawK call (dset t o.dst v) h' os (n + 1) (h :: snaps) k)
      | some (j, b) => og (wantedV (t j) b) (opK call t h o.op) h fun v h' => chk (Nat.ble h.nx h'.nx && Nat.beq h'.gn h.gn) (drawK call (dset t o.dst v) h' os (n + 1) (h :: snaps) k))
    | false, false => (match o.guard with
      | none => opK call t h o.op fun v h' => drawK call (dset t o.dst v) h' os n snaps k
      | some (j, b) => og (wantedV (t j) b) (opK call t h o.op) h fun v h' => drawK call (dset t o.dst v) h' os n snaps k)
    | false, true => (match o.guard with
      | none => opK call t h o.op fun v h' => chk (stays call t o.op v (n - o.lo) snaps) (drawK call (dset t o.dst v) h' os n snaps k)
      | some (j, b) => og (wantedV (t j) b) (fun k' => opK call t h o.op fun v h' => chk (stays call t o.op v (n - o.lo) snaps) (k' v h')) h
          fun v h' => drawK call (dset t o.dst v) h' os n snaps k)

abbrev KF := LExit → Tm → LHeap → Res

def seqK (D : Tm → LHeap → Res) (K : KF) : KF
  | .normal, t, h => D t h
  | .ret, t, h => K .ret t h
  | .exit i, t, h => K (.exit i) t h
  | .goto l, t, h => K (.goto l) t h

def blockK (id : Nat) (K : KF) : KF
  | .normal, t, h => K .normal t h
  | .ret, t, h => K .ret t h
  | .exit i, t, h => cond (Nat.beq i id) (K .normal t h) (K (.exit i) t h)
  | .goto l, t, h => K (.goto l) t h

def scopeK (l : Nat) (D : Tm → LHeap → Res) (K : KF) : KF
  | .normal, t, h => K .normal t h
  | .ret, t, h => K .ret t h
  | .exit i, t, h => K (.exit i) t h
  | .goto l', t, h => cond (Nat.beq l' l) (D t h) none

def loopN : Nat → ((Tm → LHeap → Res) → Tm → LHeap → Res) → Tm → LHeap → Res
  | 0, _, _, _ => none
  | n + 1, f, t, h => f (loopN n f) t h

def sameSt : LoopState → LoopState → Bool
  | .ready, .ready | .busy, .busy | .done, .done | .exhausted, .exhausted => true
  | _, _ => false

/-- What a loop over a function has left pending. -/
def loopEnd (h : LHeap) (l : Nat) : Option (LExit × LHeap) :=
  match hget h l with
  | some (.loop st pending ..) => chk (sameSt st .ready || sameSt st .done) (some (pending.getD .normal, hset h l .dead 0))
  | _ => none

def oRange (call : CallF) (f : Value) (ps : List Nat) (a b : LCode) (K : KF) (t : Tm) (h : LHeap) : Res :=
  match f with
  | .func (.func g) x y =>
    ob (call (.func g) (x.toList ++ ([.func (.yield h.nx) #[] #[]] ++ y.toList)) (hnew h (.loop .ready none t ps a b))) fun p =>
    ob (loopEnd p.2 h.nx) fun q => K q.1 t q.2
  | _ => none

def den (call : CallF) (n : Nat) : LCode → KF → Tm → LHeap → Res
  | .skip, K, t, h => K .normal t h
  | .region ops, K, t, h => opsK call t h ops (K .normal)
  | .draw ops, K, t, h => drawK call t h ops 0 [] (K .normal)
  | .seq a b, K, t, h => den call n a (seqK (den call n b K) K) t h
  | .cond c a b, K, t, h => oc (ev t c) (den call n a K t h) (den call n b K t h)
  | .block id b, K, t, h => den call n b (blockK id K) t h
  | .loop b, K, t, h => loopN n (fun again => den call n b (seqK again K)) t h
  | .scope first l rest, K, t, h => den call n first (scopeK l (loopN n fun again => den call n rest (scopeK l again K)) K) t h
  | .exit i, K, t, h => K (.exit i) t h
  | .goto l, K, t, h => K (.goto l) t h
  | .ret, K, t, h => K .ret t h
  | .rangeFunc f ps a b, K, t, h => oRange call (ev t f) ps a b K t h
  | .bad _, _, _, _ => none

def resV (t : Tm) (h : LHeap) : LRes → Option Value
  | .tmp n => some (t n)
  | .cell1 n => match t n with
    | .pointer (some a) => rd1 h a
    | _ => none
  | .cellN n m => match t n with
    | .pointer (some a) => (rdN h a m).map fun c => .agg ⟨c⟩
    | _ => none

def resL (t : Tm) (h : LHeap) : List LRes → (List Value → Res) → Res
  | [], k => k []
  | r :: rs, k => ob (resV t h r) fun v => resL t h rs fun vs => k (v :: vs)

def tup : List Value → Value
  | [v] => v
  | vs => .tuple ⟨vs⟩

/-- The blocks from 'base' on that a value names, without going further. -/
def refs : Nat → Nat → Value → List Nat
  | _, base, .pointer (some a) => if base ≤ a.block then [a.block] else []
  | _, base, .slice (some a) _ _ => if base ≤ a.block then [a.block] else []
  | _, base, .map (some r) => if base ≤ r then [r] else []
  | n + 1, base, .iface _ v => refs n base v
  | n + 1, base, .agg c => c.toList.flatMap (refs n base)
  | n + 1, base, .tuple c => c.toList.flatMap (refs n base)
  | n + 1, base, .func _ a b => a.toList.flatMap (refs n base) ++ b.toList.flatMap (refs n base)
  | _, _, _ => []

def refsO (base : Nat) : Option LObj → List Nat
  | some (.cells c _ _) => c.flatMap (refs 50 base)
  | some (.map es _) => es.flatMap fun e => refs 50 base e.key ++ refs 50 base e.val
  | _ => []

def reach (h : LHeap) (base : Nat) : Nat → List Nat → List Nat → List Nat
  | 0, _, done => done
  | _, [], done => done
  | n + 1, id :: todo, done => if done.contains id then reach h base n todo done else reach h base n (refsO base (hget h id) ++ todo) (done ++ [id])

def posIn (id : Nat) : List Nat → Nat → Option Nat
  | [], _ => none
  | k :: l, i => cond (Nat.beq k id) (some i) (posIn id l (i + 1))

/-- A block's new number. -/
def renId (base : Nat) (ks : List Nat) (id : Nat) : Option Nat :=
  cond (Nat.blt id base) (some id) (ob (posIn id ks 0) fun i => some (base + i))

def renV (base : Nat) (ks : List Nat) : Nat → Value → Option Value
  | _, .bool b => some (.bool b)
  | _, .int k n => some (.int k n)
  | _, .string s => some (.string s)
  | _, .pointer none => some (.pointer none)
  | _, .pointer (some a) => ob (renId base ks a.block) fun b => some (.pointer (some ⟨b, a.off, a.spot⟩))
  | _, .slice none n m => some (.slice none n m)
  | _, .slice (some a) n m => ob (renId base ks a.block) fun b => some (.slice (some ⟨b, a.off, a.spot⟩) n m)
  | _, .map none => some (.map none)
  | _, .map (some r) => ob (renId base ks r) fun b => some (.map (some b))
  | _, .nilFunc => some .nilFunc
  | _, .nilIface => some .nilIface
  | n + 1, .iface t v => ob (renV base ks n v) fun v => some (.iface t v)
  | n + 1, .agg c => ob (renVs n c.toList) fun c => some (.agg ⟨c⟩)
  | n + 1, .tuple c => ob (renVs n c.toList) fun c => some (.tuple ⟨c⟩)
  | n + 1, .func (.func f) a b => ob (renVs n a.toList) fun a => ob (renVs n b.toList) fun b => some (.func (.func f) ⟨a⟩ ⟨b⟩)
  | _, _ => none
  where
  renVs (n : Nat) : List Value → Option (List Value)
    | [] => some []
    | v :: l => ob (renV base ks n v) fun v => ob (renVs n l) fun l => some (v :: l)

def renEs (base : Nat) (ks : List Nat) : List MapEntry → Option (List MapEntry)
  | [] => some []
  | e :: l => ob (renV base ks 50 e.key) fun k => ob (renV base ks 50 e.val) fun v => ob (renEs base ks l) fun l => some ({ e with key := k, val := v } :: l)

def renO (base : Nat) (ks : List Nat) : LObj → Option LObj
  | .cells c k e => ob (renV.renVs base ks 50 c) fun c => some (.cells c k e)
  | .map es clock => ob (renEs base ks es) fun es => some (.map es clock)
  | .dead => some .dead
  | _ => none

def renOs (h : LHeap) (base : Nat) (ks : List Nat) : List Nat → List LObj → Option (List LObj)
  | [], acc => some acc
  | k :: l, acc => ob (hget h k) fun o => ob (renO base ks o) fun o => renOs h base ks l (o :: acc)

def nodup : List Nat → Bool
  | [] => true
  | k :: l => !l.contains k && nodup l

/-- At a return: of what the call made only that stays which the result comes to. -/
def retV (base : Nat) (v : Value) (h : LHeap) : Value × LHeap :=
  cond (Nat.blt h.esc base) (v, h)
  (let ks := reach h base 10000 (refs 50 base v) []
  match renV base ks 50 v, renOs h base ks ks [] with
  | some v', some bs =>
    cond (nodup ks && ks.all (fun k => Nat.ble base k))
      (v', { h with nx := base + ks.length, b := bs ++ h.b.drop (h.nx - base), esc := cond ks.isEmpty h.esc (Nat.min h.esc base) }) (v, h)
  | _, _ => (v, h))

structure Env where
  funcs : FuncId → Option LFunc
  ext : FuncId → Option (List Value → LHeap → Option (Value × LHeap))

def finK (rs : List LRes) (base : Nat) : KF
  | .normal, t, h => resL t h rs fun vs => some (retV base (tup vs) h)
  | .ret, t, h => resL t h rs fun vs => some (retV base (tup vs) h)
  | _, _, _ => none

/-- A loop's record in another state. -/
def loopSet (h : LHeap) (l : Nat) (st st' : LoopState) (pend : Option LExit) : Option LHeap :=
  match hget h l with
  | some (.loop s none t ps a b) => chk (sameSt s st) (some (hset h l (.loop st' pend t ps a b) 0))
  | _ => none

/-- What a round's body has left. -/
def roundK (base l : Nat) : KF
  | .normal, _, h => ob (loopSet h l .busy .ready none) fun h => some (retV base (.bool true) h)
  | .ret, _, h => ob (loopSet h l .busy .done (some .ret)) fun h => some (retV base (.bool false) h)
  | .exit i, _, h => ob (loopSet h l .busy .done (some (.exit i))) fun h => some (retV base (.bool false) h)
  | .goto i, _, h => ob (loopSet h l .busy .done (some (.goto i))) fun h => some (retV base (.bool false) h)

/-- One round of a range over a function. -/
def roundL (call : CallF) (n l : Nat) (args : List Value) (h : LHeap) : Res :=
  match hget h l with
  | some (.loop .ready none t ps a b) =>
    chk (Nat.beq args.length ps.length)
      (den call n a (seqK (fun t' h' => ob (loopSet h' l .ready .busy none) fun h' => den call n b (roundK h.nx l) t' h')
        (fun _ _ _ => none)) ((ps.zip args).foldl (fun t p => fset t p.1 p.2) t) h)
  | _ => none

def callF (E : Env) (call : CallF) (n : Nat) (f : FuncId) (args : List Value) (h : LHeap) : Res :=
  match E.ext f with
  | some g => g args h
  | none => ob (E.funcs f) fun fn => chk (Nat.ble args.length fn.ntmps) (den call n fn.body (finK fn.results h.nx) (fr0 args) h)

def callN (E : Env) : Nat → Fn → List Value → LHeap → Res
  | n + 1, .func f, args, h => callF E (callN E n) n f args h
  | n + 1, .yield l, args, h => roundL (callN E n) n l args h
  | _, _, _, _ => none

/-! ### An environment; a start -/

/-- A search tree over functions' numbers. -/
inductive FTree where
  | nil
  | leaf (i : Nat) (f : LFunc)
  | node (m : Nat) (a b : FTree)

def FTree.get : FTree → Nat → Option LFunc
  | .nil, _ => none
  | .leaf i f, n => cond (Nat.beq i n) (some f) none
  | .node m a b, n => cond (Nat.blt n m) (a.get n) (b.get n)

def startH (gn : Nat) (G : List (Nat × LObj)) : LHeap := { nx := gn, b := [], esc := 1000000000, gn, g := G }

def sameKd : Kind → Kind → Bool
  | .ro, .ro => true
  | .fixed, .fixed => true
  | .wide a, .wide b => Nat.beq a b
  | _, _ => false

def sameO : LObj → LObj → Bool
  | .cells c k e, .cells c' k' e' => same.all 100 c c' && (sameKd k k' && Nat.beq e e')
  | .dead, .dead => true
  | _, _ => false

def sameG : List (Nat × LObj) → List (Nat × LObj) → Bool
  | [], [] => true
  | x :: l, y :: r => Nat.beq x.1 y.1 && (sameO x.2 y.2 && sameG l r)
  | _, _ => false

/-- A call without arguments whose answer from an empty heap is known: true. -/
def knownX (gn : Nat) (G : List (Nat × LObj)) (args : List Value) (h : LHeap) : Option (Value × LHeap) :=
  match args with
  | [] => chk (Nat.beq h.gn gn && (Nat.ble gn h.esc && sameG h.g G)) (some (.bool true, h))
  | _ => none

/-- Is it true? -/
def isTrue : Option (Value × LHeap) → Bool
  | some (.bool true, _) => true
  | _ => false

end Go.L1
