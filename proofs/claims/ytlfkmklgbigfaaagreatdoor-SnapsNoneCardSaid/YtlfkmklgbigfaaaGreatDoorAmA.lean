/-
  A machine that carries out the given program abstractly, on numbers of its own for the places of memory: definitions alone.
  Conditions: those that each theorem names.
-/
import Derived.Calls
noncomputable section
namespace Go.Am
open Go

/-! ## small eliminators -/
def ci {α : Type} (c : Bool) (a b : α) : α := Bool.rec (motive := fun _ => α) b a c
def ob {α β : Type} (x : Option α) (f : α → Option β) : Option β := Option.rec (motive := fun _ => Option β) none f x
def op2 {α β γ : Type} (x : Option (α × β)) (f : α → β → Option γ) : Option γ := Option.rec (motive := fun _ => Option γ) none (fun q => Prod.rec (motive := fun _ => Option γ) f q) x
/-- a number, reckoned out before it is handed on -/
def od {α : Type} (d : α) (x : Option α) : α := Option.rec (motive := fun _ => α) d (fun v => v) x
/-- how numbers and truth values are reckoned out before they are handed on -/
class Forc where
  fN : {β : Type} → Nat → (Nat → β) → β
  fB : {β : Type} → Bool → (Bool → β) → β
  lawN : ∀ {β : Type} (n : Nat) (k : Nat → β), fN n k = k n
  lawB : ∀ {β : Type} (b : Bool) (k : Bool → β), fB b k = k b
open Forc

/-! ## tries -/
inductive T (α : Type) where
  | e : T α
  | n (l : T α) (v : Option α) (r : T α) : T α

/-- the way to a number's place in a trie -/
def bitsF : Nat → Nat → List Bool
  | 0, _ => []
  | f + 1, i => ci (Nat.beq i 0) [] (ci (Nat.beq (Nat.mod i 2) 1) (true :: bitsF f (Nat.div i 2)) (false :: bitsF f (Nat.pred (Nat.div i 2))))
def bits (i : Nat) : List Bool := bitsF i i

namespace T
def getP {α : Type} (t : T α) : List Bool → Option α :=
  T.rec (motive := fun _ => List Bool → Option α) (fun _ => none)
    (fun _ v _ ihl ihr p => List.rec (motive := fun _ => Option α) v (fun b q _ => Bool.rec (motive := fun _ => Option α) (ihr q) (ihl q) b) p) t
def setP {α : Type} (a : α) (p : List Bool) : T α → T α :=
  List.rec (motive := fun _ => T α → T α)
    (fun t => T.rec (motive := fun _ => T α) (.n .e (some a) .e) (fun l _ r _ _ => .n l (some a) r) t)
    (fun b _ ih t => Bool.rec (motive := fun _ => T α)
      (T.rec (motive := fun _ => T α) (.n .e none (ih .e)) (fun l v r _ _ => .n l v (ih r)) t)
      (T.rec (motive := fun _ => T α) (.n (ih .e) none .e) (fun l v r _ _ => .n (ih l) v r) t) b) p
def get {α : Type} (t : T α) (i : Nat) : Option α := t.getP (bits i)
def set {α : Type} (t : T α) (i : Nat) (a : α) : T α := setP a (bits i) t

/-- the elements of a list, from a place on -/
def putL {α : Type} : T α → Nat → List α → T α
  | t, _, [] => t
  | t, i, a :: l => putL (t.set i a) (Nat.succ i) l

def ofList {α : Type} (l : List α) : T α := putL .e 0 l
end T

/-- a constant without addresses -/
def litF : Nat → Value → Bool
  | 0, v => (match v with
    | .bool _ => true | .int _ _ => true | .float _ _ => true | .string _ => true | .nilFunc => true | .nilIface => true
    | .pointer a => a.isNone | .slice a _ _ => a.isNone | .map a => a.isNone | _ => false)
  | f + 1, v => (match v with
    | .bool _ => true | .int _ _ => true | .float _ _ => true | .string _ => true | .nilFunc => true | .nilIface => true
    | .pointer a => a.isNone | .slice a _ _ => a.isNone | .map a => a.isNone
    | .agg cs => all f cs.toList | .tuple cs => all f cs.toList | .iface _ x => litF f x | _ => false)
where
  all (f : Nat) : List Value → Bool
    | [] => true
    | v :: l => litF f v && all f l
def lit (v : Value) : Bool := litF 4 v

/-! ## the program, quick to look into -/
structure AP where
  P : Program
  types : T TypeInfo
  funcs : T Func

def AP.of (P : Program) : AP := { P, types := T.ofList P.types.toList, funcs := T.ofList P.funcs.toList }

def undD (ty : T TypeInfo) : TypeDesc → Option TypeDesc
  | .named _ u => ob (ty.get u) fun j => some j.desc
  | d => some d
def AP.und (p : AP) (t : TypeId) : Option TypeDesc := ob (p.types.get t) fun i => undD p.types i.desc
def AP.size (p : AP) (t : TypeId) : Option Nat := ob (p.types.get t) fun i => some i.size
def AP.bytes (p : AP) (t : TypeId) : Option Nat := ob (p.types.get t) fun i => some i.bytes
def AP.zero (p : AP) (t : TypeId) : Option Value := ob (p.types.get t) fun i => ob i.zero fun z => ci (lit z) (some z) none
def isAggD : TypeDesc → Bool
  | .struct _ | .array _ _ => true
  | _ => false

/-! ## the abstract heap -/
structure ALoop where
  state : LoopState
  pending : Option Code
  fn : FuncId
  nt : Nat
  tmps : T Value
  params : Array Tmp
  assign : Code
  body : Code
  defers : Nat

inductive AObj where
  /-- cells: n known ones; 'opn': there may be more behind them; 'ro': nothing is written there -/
  | cells (c : T Value) (n : Nat) (elem : TypeId) (opn ro : Bool)
  | map (es : List MapEntry) (clock : Nat)
  | mapIter (m : Option Nat) (since : Nat) (seen : List Nat) (last : Nat)
  | strIter (s : List UInt8) (pos : Nat)
  | loop (l : ALoop)
  | deferred (ds : Option (List Deferred))
  | dead

structure AHeap where
  objs : T AObj
  next : Nat

def AHeap.get (h : AHeap) (i : Nat) : Option AObj := h.objs.get i
def AHeap.put : AHeap → Nat → AObj → AHeap
  | ⟨os, nx⟩, i, o => ⟨os.set i o, nx⟩
def AHeap.push [iF : Forc] : AHeap → AObj → AHeap
  | ⟨os, nx⟩, o => fN (Nat.succ nx) fun n => ⟨os.set nx o, n⟩

/-- the capacity of a slice that ends where its row ends, wherever that is; elements of e cells: capInf + e -/
def capInf : Nat := 18446744073709551616
/-- an empty slice whose place hangs on its capacity: capEmp + e + 256 l -/
def capEmp : Nat := 36893488147419103232

/-! ## values -/
def natI : Int → Option Nat
  | .ofNat n => some n
  | .negSucc _ => none
def natOf : Value → Option Nat
  | .int _ n => natI n
  | _ => none

def memN (i : Nat) : List Nat → Bool
  | [] => false
  | j :: l => ci (Nat.beq i j) true (memN i l)
def lenL {α : Type} : List α → Nat
  | [] => 0
  | _ :: l => Nat.succ (lenL l)

def cellsOf : Value → List Value
  | .agg cs => cs.toList
  | v => [v]

def kn : IntKind → Nat
  | .i8 => 0 | .i16 => 1 | .i32 => 2 | .i64 => 3 | .u8 => 4 | .u16 => 5 | .u32 => 6 | .u64 => 7
def kEq (a b : IntKind) : Bool := Nat.beq (kn a) (kn b)

def wrapU (m : Nat) : Int → Int
  | .ofNat a => .ofNat (Nat.mod a m)
  | .negSucc a => .ofNat (Nat.sub (Nat.pred m) (Nat.mod a m))
def wrapI64 : Int → Int
  | .ofNat a => ci (Nat.ble a 9223372036854775807) (.ofNat a) (IntKind.wrap .i64 (.ofNat a))
  | .negSucc a => ci (Nat.ble a 9223372036854775807) (.negSucc a) (IntKind.wrap .i64 (.negSucc a))
def wrapA : IntKind → Int → Int
  | .i64 => wrapI64
  | .u8 => wrapU 256
  | .u16 => wrapU 65536
  | .u32 => wrapU 4294967296
  | .u64 => wrapU 18446744073709551616
  | .i8 => IntKind.wrap .i8
  | .i16 => IntKind.wrap .i16
  | .i32 => IntKind.wrap .i32

def ltI : Int → Int → Bool
  | .ofNat a, b => (match b with | .ofNat b => Nat.blt a b | .negSucc _ => false)
  | .negSucc a, b => (match b with | .ofNat _ => true | .negSucc b => Nat.blt b a)
def eqI : Int → Int → Bool
  | .ofNat a, b => (match b with | .ofNat b => Nat.beq a b | .negSucc _ => false)
  | .negSucc a, b => (match b with | .ofNat _ => false | .negSucc b => Nat.beq a b)

/-- an int value, reckoned out -/
def mkI [iF : Forc] (k : IntKind) : Int → Option Value
  | .ofNat a => fN a fun a => some (.int k (.ofNat a))
  | .negSucc a => fN a fun a => some (.int k (.negSucc a))
def mkB [iF : Forc] (b : Bool) : Option Value := fB b fun b => some (.bool b)

def bitsN : IntKind → Nat
  | .i8 => 8 | .u8 => 8 | .i16 => 16 | .u16 => 16 | .i32 => 32 | .u32 => 32 | .i64 => 64 | .u64 => 64
def modN : IntKind → Nat
  | .i8 => 256 | .u8 => 256 | .i16 => 65536 | .u16 => 65536 | .i32 => 4294967296 | .u32 => 4294967296 | .i64 => 18446744073709551616 | .u64 => 18446744073709551616
/-- the bits of a number, as a number -/
def unsN (k : IntKind) : Int → Nat
  | .ofNat a => Nat.mod a (modN k)
  | .negSucc a => Nat.sub (Nat.pred (modN k)) (Nat.mod a (modN k))

def intBin [iF : Forc] : BinOp → IntKind → Int → Int → Option Value
  | .add => fun k x y => mkI k (wrapA k (Int.add x y))
  | .sub => fun k x y => mkI k (wrapA k (Int.sub x y))
  | .mul => fun k x y => mkI k (wrapA k (Int.mul x y))
  | .quo => fun k x y => ci (eqI y 0) none (mkI k (wrapA k (Int.tdiv x y)))
  | .rem => fun k x y => ci (eqI y 0) none (mkI k (Int.tmod x y))
  | .and => fun k x y => mkI k (wrapA k (.ofNat (Nat.land (unsN k x) (unsN k y))))
  | .or => fun k x y => mkI k (wrapA k (.ofNat (Nat.lor (unsN k x) (unsN k y))))
  | .xor => fun k x y => mkI k (wrapA k (.ofNat (Nat.xor (unsN k x) (unsN k y))))
  | .andNot => fun k x y => mkI k (wrapA k (.ofNat (Nat.land (unsN k x) (Nat.sub (Nat.pred (modN k)) (unsN k y)))))
  | .eql => fun _ x y => mkB (eqI x y)
  | .neq => fun _ x y => mkB (not (eqI x y))
  | .lss => fun _ x y => mkB (ltI x y)
  | .leq => fun _ x y => mkB (not (ltI y x))
  | .gtr => fun _ x y => mkB (ltI y x)
  | .geq => fun _ x y => mkB (not (ltI x y))
  | .shl => fun _ _ _ => none
  | .shr => fun _ _ _ => none

def shrI (n : Nat) : Int → Int
  | .ofNat a => .ofNat (Nat.div a (Nat.pow 2 n))
  | .negSucc a => (Int.negSucc a).fdiv (.ofNat (Nat.pow 2 n))
def isShift : BinOp → Bool
  | .shl => true | .shr => true | _ => false
def shiftA [iF : Forc] : BinOp → IntKind → Int → Int → Option Value
  | .shl => fun k x y => ob (natI y) fun m => mkI k (wrapA k (Int.mul x (.ofNat (Nat.pow 2 (ci (Nat.ble m (bitsN k)) m (bitsN k))))))
  | .shr => fun k x y => ob (natI y) fun m => mkI k (shrI (ci (Nat.ble m (bitsN k)) m (bitsN k)) x)
  | _ => fun _ _ _ => none

def eqB : List UInt8 → List UInt8 → Bool
  | [], y => (match y with | [] => true | _ :: _ => false)
  | a :: x, y => (match y with | [] => false | b :: y => ci (Nat.beq a.toNat b.toNat) (eqB x y) false)
def ltB : List UInt8 → List UInt8 → Bool
  | [], y => (match y with | [] => false | _ :: _ => true)
  | a :: x, y => (match y with | [] => false | b :: y => ci (Nat.blt a.toNat b.toNat) true (ci (Nat.beq a.toNat b.toNat) (ltB x y) false))

def strL (s : ByteArray) : List UInt8 := s.data.toList
def strOf (l : List UInt8) : Value := .string ⟨⟨l⟩⟩

def strBin [iF : Forc] : BinOp → ByteArray → ByteArray → Option Value
  | .add => fun a b => ci (Nat.ble (Nat.add (lenL (strL a)) (lenL (strL b))) 4294967296) (some (strOf (strL a ++ strL b))) none
  | .eql => fun a b => mkB (eqB (strL a) (strL b))
  | .neq => fun a b => mkB (not (eqB (strL a) (strL b)))
  | .lss => fun a b => mkB (ltB (strL a) (strL b))
  | .leq => fun a b => mkB (not (ltB (strL b) (strL a)))
  | .gtr => fun a b => mkB (ltB (strL b) (strL a))
  | .geq => fun a b => mkB (not (ltB (strL a) (strL b)))
  | _ => fun _ _ => none

/-- what a computation without memory yields -/
def pureRun {α : Type} (P : Program) : Sem α → Option α
  | .pure a => some a
  | .program k => pureRun P (k P)
  | .mark _ k => pureRun P k
  | _ => none

def nth {α : Type} : List α → Nat → Option α
  | [], _ => none
  | a :: l, i => (match i with | 0 => some a | i + 1 => nth l i)

/-- part of a value -/
def partA (p : AP) (t : TypeId) (cs : List Value) (off : Nat) : Option Value :=
  ob (p.und t) fun d => ci (isAggD d) (ob (p.size t) fun n => some (.agg ⟨((cs.take (Nat.add off n)).drop off)⟩)) (nth cs off)

/-- field by field, element by element -/
def eqFields (p : AP) (eq : TypeId → Value → Value → Option Bool) : List Field → List Value → List Value → Option Bool
  | [], _, _ => some true
  | f :: fs, xs, ys => ci (decide (f.name = "_")) none <|
    ob (partA p f.type xs f.offset) fun x => ob (partA p f.type ys f.offset) fun y => ob (eq f.type x y) fun b =>
      ci b (eqFields p eq fs xs ys) (some false)
def eqElems (p : AP) (eq : TypeId → Value → Value → Option Bool) (e : TypeId) (n : Nat) (xs ys : List Value) : Nat → Nat → Option Bool
  | 0, _ => some true
  | m + 1, i =>
    ob (partA p e xs (Nat.mul i n)) fun x => ob (partA p e ys (Nat.mul i n)) fun y => ob (eq e x y) fun b =>
      ci b (eqElems p eq e n xs ys m (Nat.succ i)) (some false)

def bEq : Bool → Bool → Bool
  | true, b => b
  | false, b => not b

/-- equality at a kind of type; 'eq': of parts -/
def eqD (p : AP) (eq : TypeId → Value → Value → Option Bool) (t : TypeId) : TypeDesc → Value → Value → Option Bool
  | .bool => fun x y => (match x, y with | .bool a, .bool b => some (bEq a b) | _, _ => none)
  | .int _ => fun x y => (match x, y with | .int k a, .int k' b => ci (kEq k k') (some (eqI a b)) none | _, _ => none)
  | .string => fun x y => (match x, y with | .string a, .string b => some (eqB (strL a) (strL b)) | _, _ => none)
  | .pointer _ => fun x y => (match x, y with
    | .pointer a, .pointer b => ci a.isNone (some b.isNone) (ci b.isNone (some false) none)
    | _, _ => none)
  | .interface _ => fun x y => (match x, y with
    | .nilIface, .nilIface => some true
    | .nilIface, .iface _ _ => some false
    | .iface _ _, .nilIface => some false
    | _, _ => none)
  | .struct fs => fun x y => (match x, y with
    | .agg xs, .agg ys => ci (p.P.stoodInHeld t) none (eqFields p eq fs.toList xs.toList ys.toList)
    | _, _ => none)
  | .array len e => fun x y => (match x, y with
    | .agg xs, .agg ys => ob (p.size e) fun n => eqElems p eq e n xs.toList ys.toList len 0
    | _, _ => none)
  | .slice _ => fun x y => (match x, y with
    | .slice a _ _, .slice b _ _ => ci a.isNone (some b.isNone) (ci b.isNone (some false) none)
    | _, _ => none)
  | .map _ _ => fun x y => (match x, y with
    | .map a, .map b => ci a.isNone (some b.isNone) (ci b.isNone (some false) none)
    | _, _ => none)
  | .func _ _ _ => fun x y => (match x, y with
    | .nilFunc, .nilFunc => some true
    | .nilFunc, .func _ _ _ => some false
    | .func _ _ _, .nilFunc => some false
    | _, _ => none)
  | _ => fun _ _ => none

/-- equality, at a depth -/
def equalA (p : AP) : Nat → TypeId → Value → Value → Option Bool
  | 0, _, _, _ => none
  | d + 1, t, x, y => ob (p.und t) fun ds => eqD p (equalA p d) t ds x y

end Go.Am
end


noncomputable section
namespace Go.Am
open Go Forc

/-! ## cells -/
/-- what is done with an object of cells -/
def onCells {β : Type} (o : Option AObj) (f : T Value → Nat → TypeId → Bool → Bool → Option β) : Option β :=
  ob o fun o => match o with
    | .cells c n e opn ro => f c n e opn ro
    | _ => none
def onMap {β : Type} (o : Option AObj) (f : List MapEntry → Nat → Option β) : Option β :=
  ob o fun o => match o with
    | .map es c => f es c
    | _ => none
def onLoop {β : Type} (o : Option AObj) (f : ALoop → Option β) : Option β :=
  ob o fun o => match o with
    | .loop l => f l
    | _ => none

/-- n cells from a place on -/
def rd (c : T Value) : Nat → Nat → Option (List Value)
  | 0, _ => some []
  | n + 1, i => ob (c.get i) fun v => ob (rd c n (Nat.succ i)) fun l => some (v :: l)

/-- cells that are there are written over -/
def wr : List Value → Nat → T Value → Option (T Value)
  | [], _, c => some c
  | v :: l, i, c => ob (c.get i) fun _ => wr l (Nat.succ i) (c.set i v)

def noAgg : Value → Bool
  | .agg _ => false
  | .tuple _ => false
  | _ => true
def noAggs : List Value → Bool
  | [] => true
  | v :: l => ci (noAgg v) (noAggs l) false

def spotless {β : Type} (a : Addr) (f : Nat → Nat → Option β) : Option β :=
  match a with
  | ⟨b, o, s⟩ => (match s with | none => f b o | some _ => none)

def loadCellsA (h : AHeap) (a : Addr) (n : Nat) : Option (List Value) :=
  spotless a fun b o => onCells (h.get b) fun c _ _ _ _ => rd c n o

def storeCellsA (h : AHeap) (a : Addr) (vs : List Value) : Option AHeap :=
  spotless a fun b o => onCells (h.get b) fun c n e opn ro => ci ro none (ci (noAggs vs) (ob (wr vs o c) fun c' => some (h.put b (.cells c' n e opn false))) none)

def loadA (p : AP) (h : AHeap) (t : TypeId) (a : Addr) : Option Value :=
  ob (p.und t) fun d => ci (isAggD d)
    (ob (p.size t) fun n => ob (loadCellsA h a n) fun l => some (.agg ⟨l⟩))
    (spotless a fun b o => onCells (h.get b) fun c _ _ _ _ => c.get o)

def storeA (p : AP) (h : AHeap) (t : TypeId) (a : Addr) (v : Value) : Option AHeap :=
  ob (p.size t) fun n => ci (Nat.beq (lenL (cellsOf v)) n) (storeCellsA h a (cellsOf v)) none

def ptrV (b : Nat) : Value := .pointer (some ⟨b, 0, none⟩)
/-- a new row -/
def newRowA [iF : Forc] (h : AHeap) (e : TypeId) (l : List Value) (opn : Bool) : AHeap := h.push (.cells (T.ofList l) (lenL l) e opn false)

def addA [iF : Forc] (a : Addr) (n : Nat) : Addr :=
  match a with
  | ⟨b, o, s⟩ => ci (Nat.beq n 0) ⟨b, o, s⟩ (fN (Nat.add o n) fun m => ⟨b, m, none⟩)

/-- parts are laid into cells -/
def setRange : List Value → Nat → List Value → Option (List Value)
  | [], i, l => (match i with
    | 0 => (match l with | [] => some [] | _ :: _ => none)
    | _ + 1 => none)
  | c :: cs, i, l => (match i with
    | 0 => (match l with
      | [] => some (c :: cs)
      | v :: l => ob (setRange cs 0 l) fun r => some (v :: r))
    | i + 1 => ob (setRange cs i l) fun r => some (c :: r))

def fillA (place : Nat → Option (Nat × Nat)) : List (Nat × Value) → List Value → Option (List Value)
  | [], cs => some cs
  | q :: rest, cs => op2 (place q.1) fun off size => ci (Nat.beq (lenL (cellsOf q.2)) size)
      (ob (setRange cs off (cellsOf q.2)) fun cs' => fillA place rest cs') none

def placesA (p : AP) : List Field → List (Option (Nat × Nat))
  | [] => []
  | f :: fs => (ob (p.size f.type) fun n => some (f.offset, n)) :: placesA p fs

def nthO {α : Type} (l : List (Option α)) (i : Nat) : Option α := ob (nth l i) fun x => x

def allSome {α : Type} : List (Option α) → Bool
  | [] => true
  | o :: l => (match o with | none => false | some _ => allSome l)

def buildD (p : AP) (z : Value) (parts : List (Nat × Value)) : TypeDesc → Option Value
  | .struct fs => ci (allSome (placesA p fs.toList)) (ob (fillA (nthO (placesA p fs.toList)) parts (cellsOf z)) fun cs => some (.agg ⟨cs⟩)) none
  | .array _ e => ob (p.size e) fun n => ob (fillA (fun i => some (Nat.mul i n, n)) parts (cellsOf z)) fun cs => some (.agg ⟨cs⟩)
  | _ => none
def buildA (p : AP) (t : TypeId) (parts : List (Nat × Value)) : Option Value :=
  ob (p.und t) fun d => ob (p.zero t) fun z => buildD p z parts d

/-- n times a list -/
def timesL (l : List Value) : Nat → List Value
  | 0 => []
  | n + 1 => l ++ timesL l n

/-- the element type of a slice type -/
def sliceE (p : AP) (t : TypeId) : Option TypeId :=
  ob (p.und t) fun d => match d with
    | .slice e => some e
    | _ => none

def buildSliceA [iF : Forc] (p : AP) (h : AHeap) (t : TypeId) (len : Nat) (parts : List (Nat × Value)) : Option (Value × AHeap) :=
  ob (sliceE p t) fun e => ob (p.size e) fun n => ob (p.zero e) fun z =>
    ci (Nat.beq (lenL (cellsOf z)) n && Nat.ble (Nat.mul len n) 65536 && Nat.blt 0 n)
      (ob (fillA (fun i => some (Nat.mul i n, n)) parts (timesL (cellsOf z) len)) fun cs =>
        ci (noAggs cs) (some (.slice (some ⟨h.next, 0, none⟩) len len, newRowA h e cs false)) none) none

def makeSliceA [iF : Forc] (p : AP) (h : AHeap) (t : TypeId) (len cap : Value) : Option (Value × AHeap) :=
  ob (sliceE p t) fun e => ob (natOf len) fun l => ob (natOf cap) fun c => ob (p.size e) fun n => ob (p.zero e) fun z => ob (p.bytes e) fun b =>
    ci (Nat.ble l c && Nat.ble c 1048576 && Nat.ble b 65536 && Nat.beq (lenL (cellsOf z)) n && Nat.blt 0 n && noAggs (cellsOf z))
      (some (.slice (some ⟨h.next, 0, none⟩) l c, newRowA h e (timesL (cellsOf z) c) false)) none

/-! ## slices -/
/-- the bound of a slice expression: a number up to a known bound -/
def bnd (x : Option Value) (d : Nat) (y : Nat) : Option Nat :=
  match x with
  | none => some d
  | some v => ob (natOf v) fun n => ci (Nat.ble n y) (some n) none

/-- how many elements there surely are from a slice's first one on -/
def knownCap [iF : Forc] (h : AHeap) (a : Addr) (e : Nat) : Option Nat :=
  onCells (h.get a.block) fun _ n _ _ _ => ci (Nat.blt 0 e && Nat.ble a.off n) (fN (Nat.div (Nat.sub n a.off) e) fun k => some k) none

def mkSl [iF : Forc] (a : Addr) (len cap : Nat) : Option Value := fN len fun len => fN cap fun cap => some (.slice (some a) len cap)

/-- of a slice whose capacity is known -/
def sliceX [iF : Forc] (n : Nat) (a : Addr) (len cap : Nat) (lo hi mx : Option Value) : Option Value :=
  ob (bnd mx cap cap) fun m => ob (bnd hi len m) fun hh => ob (bnd lo 0 hh) fun l =>
    ci (Nat.ble len cap) (mkSl (ci (Nat.beq m l) a (addA a (Nat.mul l n))) (Nat.sub hh l) (Nat.sub m l)) none
/-- of a slice whose capacity is not known, but that it is at least k -/
def sliceI [iF : Forc] (n k : Nat) (a : Addr) (len cap : Nat) (lo hi mx : Option Value) : Option Value :=
  ci (Nat.ble len k) (match mx with
    | some mv => ob (bnd (some mv) 0 k) fun m => ob (bnd hi len m) fun hh => ob (bnd lo 0 hh) fun l =>
        ci (Nat.blt m capInf) (mkSl (ci (Nat.beq m l) a (addA a (Nat.mul l n))) (Nat.sub hh l) (Nat.sub m l)) none
    | none => ob (bnd hi len k) fun hh => ob (bnd lo 0 hh) fun l =>
        ci (Nat.beq l 0) (mkSl a hh cap)
          (ci (Nat.blt l k) (mkSl (addA a (Nat.mul l n)) (Nat.sub hh l) cap)
            -- the slice is empty; where it lies hangs on the capacity
            (ci (Nat.blt n 256) (mkSl a 0 (Nat.add capEmp (Nat.add n (Nat.mul 256 l)))) none))) none
/-- of an empty one whose place is not known -/
def sliceZ (a : Addr) (cap : Nat) (lo hi mx : Option Value) : Option Value :=
  match mx with
  | some _ => none
  | none => ob (bnd hi 0 0) fun _ => ob (bnd lo 0 0) fun _ => some (.slice (some a) 0 cap)

def sliceS [iF : Forc] (n : Nat) (h : AHeap) (a : Addr) (len cap : Nat) (lo hi mx : Option Value) : Option Value :=
  ci (Nat.blt cap capInf) (sliceX n a len cap lo hi mx)
    (ci (Nat.blt cap capEmp) (ci (Nat.beq cap (Nat.add capInf n)) (ob (knownCap h a n) fun k => sliceI n k a len cap lo hi mx) none)
      (sliceZ a cap lo hi mx))

def sliceV [iF : Forc] (p : AP) (h : AHeap) (e : TypeId) (a : Option Addr) (len cap : Nat) (lo hi mx : Option Value) : Option Value :=
  ob (p.size e) fun n => (match a with
    | none => ob (bnd mx 0 0) fun _ => ob (bnd hi 0 0) fun _ => ob (bnd lo 0 0) fun _ => ci (Nat.beq len 0 && Nat.beq cap 0) (some (.slice none 0 0)) none
    | some a => sliceS n h a len cap lo hi mx)

def sliceT (l : List UInt8) (lo hi mx : Option Value) : Option Value :=
  match mx with
  | some _ => none
  | none => ob (bnd hi (lenL l) (lenL l)) fun hh => ob (bnd lo 0 hh) fun k => some (strOf ((l.take hh).drop k))

def sliceD [iF : Forc] (p : AP) (h : AHeap) (lo hi mx : Option Value) : TypeDesc → Value → Option Value
  | .array n e => fun x => (match x with | .pointer a => ob a fun a => ci (Nat.blt n capInf) (sliceV p h e (some a) n n lo hi mx) none | _ => none)
  | .string => fun x => (match x with | .string s => sliceT (strL s) lo hi mx | _ => none)
  | .slice e => fun x => (match x with | .slice a len cap => sliceV p h e a len cap lo hi mx | _ => none)
  | _ => fun _ => none
def noHigh (hi mx : Option Value) : Bool :=
  match mx with
  | none => false
  | some _ => hi.isNone
def sliceA [iF : Forc] (p : AP) (h : AHeap) (t : TypeId) (x : Value) (lo hi mx : Option Value) : Option Value :=
  ci (noHigh hi mx) none (ob (p.und t) fun d => sliceD p h lo hi mx d x)

def cellOfByte (b : UInt8) : Value := .int .u8 (.ofNat b.toNat)
def cellsOfB : List UInt8 → List Value
  | [] => []
  | b :: l => cellOfByte b :: cellsOfB l

/-- the first n elements of a slice or a string, as cells -/
def firstA (h : AHeap) (size n : Nat) : Value → Option (List Value)
  | .slice a _ c => (match a with
    | some a => ci (Nat.blt c capEmp) (loadCellsA h a (Nat.mul n size)) (ci (Nat.beq n 0) (some []) none)
    | none => some [])
  | .string s => some (cellsOfB ((strL s).take n))
  | _ => none

def lenA : Value → Option Nat
  | .slice _ n _ => some n
  | .string s => some (lenL (strL s))
  | _ => none

def isIntD : TypeDesc → Bool
  | .int _ => true
  | _ => false

/-- what is appended: how many elements, their cells -/
def newOfA (p : AP) (h : AHeap) (e : TypeId) (size : Nat) (xd : TypeDesc) (x : Value) : Option (Nat × List Value) :=
  ci (isIntD xd)
    (ob (natOf x) fun n => ob (p.zero e) fun z => ci (Nat.beq (lenL (cellsOf z)) size && Nat.ble n 1048576) (some (n, timesL (cellsOf z) n)) none)
    (ob (lenA x) fun n => ob (firstA h size n x) fun l => some (n, l))

/-- an append whose row is not long enough, or may not be -/
def grown [iF : Forc] (h : AHeap) (e : TypeId) (size need : Nat) (l : List Value) : Option (Value × AHeap) :=
  some (.slice (some ⟨h.next, 0, none⟩) need (Nat.add capInf size), newRowA h e l true)

/-- an append to an empty slice whose place hangs on its capacity -/
def appendE [iF : Forc] (h : AHeap) (e : TypeId) (size : Nat) (a : Addr) (sLen sCap need : Nat) (new : List Value) : Option (Value × AHeap) :=
  ci (Nat.ble capEmp sCap && Nat.beq (Nat.mod (Nat.sub sCap capEmp) 256) size && Nat.beq sLen 0 && Nat.blt 0 need)
    (onCells (h.get a.block) fun _ _ t opn ro => ci (opn && not ro && Nat.beq t e) (grown (h.put a.block .dead) e size need new) none) none
def appendS [iF : Forc] (h : AHeap) (e : TypeId) (size : Nat) (a : Addr) (sLen sCap need : Nat) (new : List Value) : Option (Value × AHeap) :=
  ci (Nat.blt sCap capInf)
    (ci (Nat.ble need sCap)
      (ob (storeCellsA h (addA a (Nat.mul sLen size)) new) fun h' => some (.slice (some a) need sCap, h'))
      (ob (loadCellsA h a (Nat.mul sLen size)) fun old => grown h e size need (old ++ new)))
    (ci (Nat.beq sCap (Nat.add capInf size))
      (ob (knownCap h a size) fun k => ci (Nat.ble need k)
        (ob (storeCellsA h (addA a (Nat.mul sLen size)) new) fun h' => some (.slice (some a) need sCap, h'))
        (ob (loadCellsA h a (Nat.mul sLen size)) fun old => onCells (h.get a.block) fun _ _ t opn ro =>
          ci (opn && not ro && Nat.beq t e) (grown (h.put a.block .dead) e size need (old ++ new)) none))
      (appendE h e size a sLen sCap need new))

def appendV [iF : Forc] (p : AP) (h : AHeap) (e : TypeId) (xd : TypeDesc) (base : Option Addr) (sLen sCap : Nat) (x : Value) : Option (Value × AHeap) :=
  ob (p.size e) fun size => ob (p.bytes e) fun bytes => ob (p.zero e) fun z => op2 (newOfA p h e size xd x) fun n new => fN (Nat.add sLen n) fun need =>
    ci (Nat.ble need 1048576 && Nat.ble bytes 65536 && Nat.blt 0 size && Nat.blt size 256 && noAggs new && Nat.beq (lenL new) (Nat.mul n size) && Nat.beq (lenL (cellsOf z)) size)
      (match base with
        | none => ci (Nat.beq sCap 0 && Nat.beq sLen 0) (ci (Nat.beq need 0) (some (.slice none 0 0, h)) (grown h e size need new)) none
        | some a => appendS h e size a sLen sCap need new)
      none

/-- the first two arguments -/
def two {β γ : Type} (l : List β) (f : β → β → Option γ) : Option γ :=
  match l with
  | [] => none
  | a :: l => (match l with | [] => none | b :: _ => f a b)
def one {β γ : Type} (l : List β) (f : β → Option γ) : Option γ :=
  match l with
  | [] => none
  | a :: _ => f a

def appendA [iF : Forc] (p : AP) (h : AHeap) (argTypes : List TypeId) (args : List Value) : Option (Value × AHeap) :=
  two argTypes fun st xt => two args fun s x => ob (sliceE p st) fun e => ob (p.und xt) fun xd => (match s with
    | .slice base sLen sCap => appendV p h e xd base sLen sCap x
    | _ => none)

def copyV (h : AHeap) (size : Nat) (base : Option Addr) (dCap n : Nat) (src : Value) : Option (Value × AHeap) :=
  ob (firstA h size n src) fun cells => (match base with
    | none => some (.int .i64 (.ofNat n), h)
    | some a => ci (Nat.blt dCap capEmp) (ob (storeCellsA h a cells) fun h' => some (.int .i64 (.ofNat n), h'))
        (ci (Nat.beq n 0) (some (.int .i64 (.ofNat 0), h)) none))
def copyA [iF : Forc] (p : AP) (h : AHeap) (argTypes : List TypeId) (args : List Value) : Option (Value × AHeap) :=
  one argTypes fun dt => two args fun d src => ob (sliceE p dt) fun e => ob (p.size e) fun size => ob (lenA src) fun sl => (match d with
    | .slice base dLen dCap => fN (ci (Nat.ble sl dLen) sl dLen) fun n => copyV h size base dCap n src
    | _ => none)

/-- clear of a slice -/
def clearA (p : AP) (h : AHeap) (argTypes : List TypeId) (args : List Value) : Option (Value × AHeap) :=
  one argTypes fun t => one args fun x => ob (sliceE p t) fun e => (match x with
    | .slice base len cap => (match base with
      | none => some (.tuple #[], h)
      | some a => ci (Nat.beq len 0) (some (.tuple #[], h)) (ob (p.zero e) fun z => ob (p.size e) fun n =>
          ci (Nat.blt cap capEmp && Nat.beq (lenL (cellsOf z)) n) (ob (storeCellsA h a (timesL (cellsOf z) len)) fun h' => some (.tuple #[], h')) none))
    | _ => none)

def i64 [iF : Forc] (n : Nat) : Option Value := fN n fun n => some (.int .i64 (.ofNat n))

def lenD [iF : Forc] (p : AP) (h : AHeap) : TypeDesc → Value → Option Value
  | .string => fun x => (match x with | .string s => i64 (lenL (strL s)) | _ => none)
  | .array n _ => fun _ => i64 n
  | .slice _ => fun x => (match x with | .slice _ n _ => i64 n | _ => none)
  | .map _ _ => fun x => (match x with
    | .map r => (match r with
      | none => i64 0
      | some r => onMap (h.get r) fun es _ => i64 (lenL es))
    | _ => none)
  | .pointer a => fun _ => ob (p.und a) fun d => (match d with | .array n _ => i64 n | _ => none)
  | _ => fun _ => none
def lenOfA [iF : Forc] (p : AP) (h : AHeap) (t : TypeId) (x : Value) : Option Value := ob (p.und t) fun d => lenD p h d x

def capOfA [iF : Forc] (p : AP) (t : TypeId) (x : Value) : Option Value :=
  ob (p.und t) fun d => (match d with
    | .slice _ => (match x with | .slice _ _ c => ci (Nat.blt c capInf) (i64 c) none | _ => none)
    | .array n _ => i64 n
    | _ => none)

def min2A [iF : Forc] (v w : Value) : Option Value :=
  match v, w with
  | .int k x, .int _ y => mkI k (ci (ltI y x) y x)
  | _, _ => none
def max2A [iF : Forc] (v w : Value) : Option Value :=
  match v, w with
  | .int k x, .int _ y => mkI k (ci (ltI x y) y x)
  | _, _ => none
def fold2 (f : Value → Value → Option Value) : List Value → Value → Option Value
  | [], x => some x
  | y :: l, x => ob (f x y) fun z => fold2 f l z

/-! ## maps -/
/-- keys without addresses: numbers, texts, bools, and arrays of so many numbers -/
inductive KeyKind where | int | str | bool | ints (n : Nat)
def intEq (v w : Value) : Option Bool :=
  match v, w with
  | .int k a, .int k' b => ci (kEq k k') (some (eqI a b)) none
  | _, _ => none
def intEqs : List Value → List Value → Option Bool
  | [], y => (match y with | [] => some true | _ :: _ => none)
  | a :: x, y => (match y with | [] => none | b :: y => ob (intEq a b) fun r => ci r (intEqs x y) (some false))
def keyIs : KeyKind → Value → Value → Option Bool
  | .int => intEq
  | .str => fun v w => (match v, w with | .string a, .string b => some (eqB (strL a) (strL b)) | _, _ => none)
  | .bool => fun v w => (match v, w with | .bool a, .bool b => some (bEq a b) | _, _ => none)
  | .ints _ => fun v w => (match v, w with | .agg x, .agg y => intEqs x.toList y.toList | _, _ => none)
def isIntV : Value → Bool
  | .int _ _ => true
  | _ => false
def allInts : List Value → Bool
  | [] => true
  | v :: l => ci (isIntV v) (allInts l) false
/-- is that such a key? -/
def keyOk : KeyKind → Value → Bool
  | .int => isIntV
  | .str => fun v => (match v with | .string _ => true | _ => false)
  | .bool => fun v => (match v with | .bool _ => true | _ => false)
  | .ints n => fun v => (match v with | .agg x => ci (allInts x.toList) (Nat.beq (lenL x.toList) n) false | _ => false)
def keyKindD (p : AP) : TypeDesc → Option KeyKind
  | .int _ => some .int
  | .string => some .str
  | .bool => some .bool
  | .array n e => ob (p.und e) fun d => ob (p.size e) fun s => ci (isIntD d && Nat.beq s 1) (some (.ints n)) none
  | _ => none

def findA (k : KeyKind) (x : Value) : List MapEntry → Nat → Option (Option (Nat × MapEntry))
  | [], _ => some none
  | e :: es, i => ob (keyIs k x e.key) fun b => ci b (some (some (i, e))) (findA k x es (Nat.succ i))

def setNth (v : Value) : List MapEntry → Nat → List MapEntry
  | [], _ => []
  | e :: es, i => (match i with | 0 => { key := e.key, val := v, born := e.born } :: es | i + 1 => e :: setNth v es i)
def dropNth : List MapEntry → Nat → List MapEntry
  | [], _ => []
  | e :: es, i => (match i with | 0 => es | i + 1 => e :: dropNth es i)

def mapOfA {β : Type} (p : AP) (t : TypeId) (key : Value) (f : KeyKind → TypeId → Option β) : Option β :=
  ob (p.und t) fun d => (match d with
    | .map k e => ob (p.und k) fun dk => ob (keyKindD p dk) fun kk => ci (keyOk kk key) (f kk e) none
    | _ => none)

def foundV (ok : Bool) (v : Value) (b : Bool) : Option Value := ci ok (some (.tuple ⟨[v, .bool b]⟩)) (some v)
def lookEs (p : AP) (kk : KeyKind) (e : TypeId) (ix : Value) (ok : Bool) (es : List MapEntry) : Option Value :=
  ob (findA kk ix es 0) fun r => (match r with
    | some q => foundV ok q.2.val true
    | none => ob (p.zero e) fun z => ci (lit z) (foundV ok z false) none)
def lookupA (p : AP) (h : AHeap) (t : TypeId) (x ix : Value) (ok : Bool) : Option Value :=
  mapOfA p t ix fun kk e => (match x with
    | .map r => (match r with
      | none => lookEs p kk e ix ok []
      | some r => onMap (h.get r) fun es _ => lookEs p kk e ix ok es)
    | _ => none)

/-- of a map that is none nil -/
def mapRef {β : Type} (m : Value) (f : Nat → Option β) : Option β :=
  match m with
  | .map r => ob r f
  | _ => none

def mapUpdateA (p : AP) (h : AHeap) (t : TypeId) (m k v : Value) : Option AHeap :=
  mapOfA p t k fun kk _ => mapRef m fun r => onMap (h.get r) fun es clock => ob (findA kk k es 0) fun q => (match q with
    | some q => some (h.put r (.map (setNth v es q.1) clock))
    | none => some (h.put r (.map (es ++ [{ key := k, val := v, born := clock }]) (Nat.succ clock))))

def deleteA (p : AP) (h : AHeap) (t : TypeId) (m k : Value) : Option AHeap :=
  mapOfA p t k fun kk _ => (match m with
    | .map r => (match r with
      | none => some h
      | some r => onMap (h.get r) fun es clock => ob (findA kk k es 0) fun q => (match q with
        | some q => some (h.put r (.map (dropNth es q.1) clock))
        | none => some (h.put r (.map es clock))))
    | _ => none)

end Go.Am
end


noncomputable section
namespace Go.Am
open Go Forc

/-! ## one operation -/
inductive ANext where
  | value (v : Value)
  | skip
  | enter (f : FuncId) (args : List Value)
  | round (l : Nat) (args : List Value)
  | defer (d : Deferred)
  | recover
  | panic (v : Value)

/-- a value without addresses -/
def litO (o : Option Value) : Option Value := ob o fun v => ci (lit v) (some v) none

def bytesOfCells : List Value → Option (List UInt8)
  | [] => some []
  | v :: l => (match v with
    | .int k n => ci (kEq k .u8) (ob (natI n) fun n => ob (bytesOfCells l) fun r => some (UInt8.ofNat n :: r)) none
    | _ => none)

def isU8 : TypeDesc → Bool
  | .int k => kEq k .u8
  | _ => false
def isFloatD : TypeDesc → Bool
  | .float _ => true
  | _ => false

/-- conversions that make no memory -/
def convQ [iF : Forc] (p : AP) (h : AHeap) (src dst : TypeId) (x : Value) : Option Value :=
  ob (p.und src) fun sd => ob (p.und dst) fun dd => (match dd with
    | .int k => (match x with
      | .int _ n => mkI k (wrapA k n)
      | .float k b => litO (pureRun p.P (convert src dst (.float k b)))
      | _ => none)
    | .string => (match x with
      | .string s => some (.string s)
      | .slice a len cap => (match sd with
        | .slice e => ob (p.und e) fun ed => ci (isU8 ed) (match a with
          | none => some (strOf [])
          | some a => ci (Nat.blt cap capEmp) (ob (loadCellsA h a len) fun l => ob (bytesOfCells l) fun b => some (strOf b))
              (ci (Nat.beq len 0) (some (strOf [])) none)) none
        | _ => none)
      | _ => none)
    | .float _ => (match x with
      | .int k n => litO (pureRun p.P (convert src dst (.int k n)))
      | .float k b => litO (pureRun p.P (convert src dst (.float k b)))
      | _ => none)
    | _ => none)

def isStrSl (p : AP) (dd : TypeDesc) : Option TypeId :=
  match dd with
  | .slice e => ob (p.und e) fun ed => ci (isU8 ed) (some e) none
  | _ => none

def convW [iF : Forc] (p : AP) (h : AHeap) (src dst : TypeId) (x : Value) : Option (Value × AHeap) :=
  match x with
  | .string s => ob (p.und src) fun _ => ob (p.und dst) fun dd => (match dd with
    | .slice e => ob (p.und e) fun ed => ci (isU8 ed) (fN (lenL (strL s)) fun n => ci (Nat.ble n 1048576)
        (some (.slice (some ⟨h.next, 0, none⟩) n (Nat.add capInf 1), newRowA h e (cellsOfB (strL s)) true)) none) none
    | _ => ob (convQ p h src dst (.string s)) fun v => some (v, h))
  | .slice a l c => ob (p.und src) fun _ => ob (p.und dst) fun dd => (match dd with
    | .slice e => ob (p.und e) fun ed => ob a fun a => onCells (h.get a.block) fun _ _ _ _ ro => ci (isU8 ed && Nat.beq src dst && not ro) (some (.slice (some a) l c, h)) none
    | _ => ob (convQ p h src dst (.slice a l c)) fun v => some (v, h))
  | x => ob (convQ p h src dst x) fun v => some (v, h)

def eqOp [iF : Forc] (p : AP) (op : BinOp) (t : TypeId) (x y : Value) : Option Value :=
  match op with
  | .eql => ob (equalA p 100 t x y) mkB
  | .neq => ob (equalA p 100 t x y) fun b => mkB (not b)
  | _ => none

def isConst : Operand → Bool
  | .const _ => true
  | _ => false

def intOrShift [iF : Forc] (op : BinOp) (k : IntKind) (a : Int) (k' : IntKind) (b : Int) : Option Value :=
  ci (isShift op) (shiftA op k a b) (ci (kEq k k') (intBin op k a b) none)

/-- 'c': is one of the operands a constant? -/
def binV [iF : Forc] (p : AP) (op : BinOp) (t : TypeId) (c : Bool) : Value → Value → Option Value
  | .int k a => fun y => (match y with | .int k' b => intOrShift op k a k' b | _ => none)
  | .string a => fun y => (match y with | .string b => strBin op a b | _ => none)
  | .float k a => fun y => (match y with | .float k' b => litO (pureRun p.P (binOp op t (.float k a) (.float k' b))) | _ => none)
  | .nilIface => fun y => (match y with | .nilIface => ci c (eqOp p op t .nilIface .nilIface) none | y => eqOp p op t .nilIface y)
  | .agg xs => fun y => ci (p.P.eqGuardType p.P.depth t) none (eqOp p op t (.agg xs) y)
  | x => fun y => eqOp p op t x y

def unA [iF : Forc] (p : AP) (op : UnOp) (x : Value) : Option Value :=
  match op with
  | .not => (match x with | .bool b => mkB (not b) | _ => none)
  | .neg => (match x with
    | .int k n => intBin .sub k (.ofNat 0) n
    | .float k b => litO (pureRun p.P (Op.unary .neg (.float k b)))
    | _ => none)
  | .xor => (match x with | .int k n => intBin .xor k (ci k.signed (.negSucc 0) k.max) n | _ => none)
  | .plus => none

/-- an element's address -/
def elemAt [iF : Forc] (p : AP) (e : TypeId) (a : Addr) (len i : Nat) : Option Value :=
  ob (p.size e) fun n => ci (Nat.blt i len) (some (.pointer (some (addA a (Nat.mul i n))))) none
def indexAddrD [iF : Forc] (p : AP) (ix : Value) : TypeDesc → Value → Option Value
  | .array len e => fun x => (match x with | .pointer a => ob a fun a => ob (natOf ix) fun i => elemAt p e a len i | _ => none)
  | .slice e => fun x => (match x with
    | .slice a len cap => ob a fun a => ob (natOf ix) fun i => ci (Nat.blt cap capEmp) (elemAt p e a len i) none
    | _ => none)
  | _ => fun _ => none
def indexAddrA [iF : Forc] (p : AP) (t : TypeId) (x ix : Value) : Option Value := ob (p.und t) fun d => indexAddrD p ix d x

def indexD [iF : Forc] (p : AP) (ix : Value) : TypeDesc → Value → Option Value
  | .array len e => fun x => (match x with
    | .agg cs => ob (natOf ix) fun i => ob (p.size e) fun n => ci (Nat.blt i len) (partA p e cs.toList (Nat.mul i n)) none
    | _ => none)
  | .string => fun x => (match x with | .string s => ob (natOf ix) fun i => ob (nth (strL s) i) fun b => fN b.toNat fun n => some (.int .u8 (.ofNat n)) | _ => none)
  | _ => fun _ => none
def indexA [iF : Forc] (p : AP) (t : TypeId) (x ix : Value) : Option Value := ob (p.und t) fun d => indexD p ix d x

def fieldsOf {β : Type} (p : AP) (t : TypeId) (i : Nat) (f : Field → Option β) : Option β :=
  ob (p.und t) fun d => (match d with | .struct fs => ob (nth fs.toList i) f | _ => none)
def fieldAddrA [iF : Forc] (p : AP) (t : TypeId) (x : Value) (f : Nat) : Option Value :=
  fieldsOf p t f fun fd => (match x with
    | .pointer a => ob a fun a => ob (p.size fd.type) fun n => ci (Nat.blt 0 n) (some (.pointer (some (addA a fd.offset)))) none
    | _ => none)
def fieldA (p : AP) (t : TypeId) (x : Value) (f : Nat) : Option Value :=
  fieldsOf p t f fun fd => (match x with | .agg cs => partA p fd.type cs.toList fd.offset | _ => none)

def arrayAtA (p : AP) (arr : TypeId) (x : Value) : Option Value :=
  ob (p.und arr) fun d => (match d with
    | .array n _ => (match x with | .slice a len cap => ci (Nat.ble n len && Nat.blt cap capEmp) (some (.pointer a)) none | _ => none)
    | _ => none)

def isIfaceD : TypeDesc → Bool
  | .interface _ => true
  | _ => false
def assertFails (p : AP) (t : TypeId) (ok : Bool) : Option Value :=
  ci ok (ob (p.zero t) fun z => ci (lit z) (some (.tuple ⟨[z, .bool false]⟩)) none) none
def typeAssertA (p : AP) (x : Value) (asserted : TypeId) (ok : Bool) : Option Value :=
  ob (p.und asserted) fun d => ci (isIfaceD d) none (match x with
    | .nilIface => assertFails p asserted ok
    | .iface t v => ci (Nat.beq t asserted) (ci ok (some (.tuple ⟨[v, .bool true]⟩)) (some v)) (assertFails p asserted ok)
    | _ => none)

def nilCheckA : Value → Option Value
  | .pointer a => ob a fun a => some (.pointer (some a))
  | .func fn first cap => (match fn with
    | .func f => some (.func (.func f) first cap)
    | .yield l => some (.func (.yield l) first cap)
    | .via t pa f b => some (.func (.via t pa f b) first cap)
    | _ => none)
  | _ => none

/-- an operand's value -/
def evalA (tm : T Value) (gl : Nat) : Operand → Option Value
  | .tmp t => tm.get t
  | .const v => ci (lit v) (some v) none
  | .global g => ci (Nat.blt g gl) (some (.pointer (some ⟨g, 0, none⟩))) none
  | .func f => some (.func (.func f) #[] #[])

def evalL (tm : T Value) (gl : Nat) : List Operand → Option (List Value)
  | [] => some []
  | o :: l => ob (evalA tm gl o) fun v => ob (evalL tm gl l) fun vs => some (v :: vs)

def evalO (tm : T Value) (gl : Nat) : Option Operand → Option (Option Value)
  | none => some none
  | some o => ob (evalA tm gl o) fun v => some (some v)

def evalP (tm : T Value) (gl : Nat) : List (Nat × Operand) → Option (List (Nat × Value))
  | [] => some []
  | q :: l => ob (evalA tm gl q.2) fun v => ob (evalP tm gl l) fun vs => some ((q.1, v) :: vs)

def builtinQ [iF : Forc] (p : AP) (h : AHeap) (argTypes : List TypeId) (vs : List Value) : Builtin → Option Value
  | .len => one argTypes fun t => one vs fun v => lenOfA p h t v
  | .cap => one argTypes fun t => one vs fun v => capOfA p t v
  | .min => (match vs with | [] => none | v :: l => fold2 min2A l v)
  | .max => (match vs with | [] => none | v :: l => fold2 max2A l v)
  | _ => none

abbrev QF := AP → Nat → T Value → AHeap → Option Value
def callQ [iF : Forc] (c : Call) : QF := fun p gl tm h => match c.callee with
  | .builtin b => ob (evalL tm gl c.args.toList) fun vs => builtinQ p h c.argTypes.toList vs b
  | _ => none

def isYield : Fn → Bool
  | .yield _ => true
  | _ => false
/-- an operation that leaves the memory alone: its value -/
def quietF [iF : Forc] : Op → QF
  | .move x => fun _ gl tm _ => evalA tm gl x
  | .assign x => fun _ gl tm _ => evalA tm gl x
  | .pick c a b => fun _ gl tm _ => ob (evalA tm gl c) fun c => (match c with | .bool t => ci t (evalA tm gl a) (evalA tm gl b) | _ => none)
  | .build t parts => fun p gl tm _ => ob (evalP tm gl parts.toList) fun ps => buildA p t ps
  | .load t a => fun p gl tm h => ob (evalA tm gl a) fun a => (match a with | .pointer a => ob a fun a => loadA p h t a | _ => none)
  | .nilCheck x => fun _ gl tm _ => ob (evalA tm gl x) nilCheckA
  | .binOp op t x y _ => fun p gl tm _ => ob (evalA tm gl x) fun a => ob (evalA tm gl y) fun b => binV p op t (isConst x || isConst y) a b
  | .unOp op _ x => fun p gl tm _ => ob (evalA tm gl x) fun v => unA p op v
  | .convert s d x => fun p gl tm h => ob (evalA tm gl x) fun v => convQ p h s d v
  | .sliceToArrayPointer arr x => fun p gl tm _ => ob (evalA tm gl x) fun v => arrayAtA p arr v
  | .makeInterface t x => fun p gl tm _ => ob (p.und t) fun d => ci (isIfaceD d) none (ob (evalA tm gl x) fun v => some (.iface t v))
  | .makeFunc fn first cap => fun _ gl tm _ => ci (isYield fn) none <| ob (evalL tm gl first.toList) fun a => ob (evalL tm gl cap.toList) fun b => some (.func fn ⟨a⟩ ⟨b⟩)
  | .slice t x lo hi mx => fun p gl tm h => ob (evalA tm gl x) fun v => ob (evalO tm gl lo) fun l => ob (evalO tm gl hi) fun hh => ob (evalO tm gl mx) fun m => sliceA p h t v l hh m
  | .fieldAddr t x f => fun p gl tm _ => ob (evalA tm gl x) fun v => fieldAddrA p t v f
  | .field t x f => fun p gl tm _ => ob (evalA tm gl x) fun v => fieldA p t v f
  | .indexAddr t x i => fun p gl tm _ => ob (evalA tm gl x) fun v => ob (evalA tm gl i) fun ix => indexAddrA p t v ix
  | .index t x i => fun p gl tm _ => ob (evalA tm gl x) fun v => ob (evalA tm gl i) fun ix => indexA p t v ix
  | .lookup t x i ok => fun p gl tm h => ob (evalA tm gl x) fun v => ob (evalA tm gl i) fun ix => lookupA p h t v ix ok
  | .typeAssert x _ a ok => fun p gl tm _ => ob (evalA tm gl x) fun v => typeAssertA p v a ok
  | .extract x i => fun _ gl tm _ => ob (evalA tm gl x) fun v => (match v with | .tuple vs => nth vs.toList i | _ => none)
  | .call c => callQ c
  | _ => fun _ _ _ _ => none

/-- is an operation one that only reads? -/
def isQuiet : Op → Bool
  | .move _ => true | .pick _ _ _ => true | .build _ _ => true | .load _ _ => true | .nilCheck _ => true | .binOp _ _ _ _ _ => true | .unOp _ _ _ => true
  | .sliceToArrayPointer _ _ => true | .makeInterface _ _ => true | .makeFunc _ _ _ => true | .slice _ _ _ _ _ => true | .fieldAddr _ _ _ => true
  | .field _ _ _ => true | .indexAddr _ _ _ => true | .index _ _ _ => true | .lookup _ _ _ _ => true | .typeAssert _ _ _ _ => true | .extract _ _ => true
  | .convert _ _ _ => true
  | .call c => (match c.callee with
    | .builtin b => (match b with | .len => true | .cap => true | .min => true | .max => true | _ => false)
    | _ => false)
  | _ => false

/-- whose function value is called, with which arguments -/
def calleeA (v : Value) (args : List Value) : Option ANext :=
  match v with
  | .func fn first cap => (match fn with
    | .func f => some (.enter f ((first.toList ++ args) ++ cap.toList))
    | .yield l => some (.round l (first.toList ++ args))
    | _ => none)
  | _ => none

/-- a method of a type, by its name -/
def findM (name : String) : List Method → Option Method
  | [] => none
  | m :: l => ci (decide (m.name = name)) (some m) (findM name l)
def isPtrD : TypeDesc → Bool
  | .pointer _ => true
  | _ => false
/-- the receiver that a method wants, of a value of a type -/
def recvA [iF : Forc] (p : AP) (t : TypeId) (x : Value) (ptr : Bool) : List FieldStep → Option Value
  | [] => ob (p.und t) fun d => ci (bEq (isPtrD d) ptr) (some x) none
  | s :: l => (match l with
    | [] => ci s.deref
        (ci ptr (fieldsOf p s.struct s.index fun fd => ob (p.und fd.type) fun d => ci (isPtrD d) none (fieldAddrA p s.struct x s.index)) none)
        (fieldsOf p s.struct s.index fun fd => ob (p.und fd.type) fun d => ci (bEq (isPtrD d) ptr) (fieldA p s.struct x s.index) none)
    | _ :: _ => none)
/-- whose method an interface value calls: its dynamic type's own, or that of a field that lies in what it points to -/
def invokeA [iF : Forc] (p : AP) (name : String) (v : Value) (args : List Value) : Option ANext :=
  match v with
  | .iface t x => ob (p.types.get t) fun ti => ob (findM name ti.methods.toList) fun m => ob m.func fun q => ob (recvA p t x q.2 m.path.toList) fun x =>
      some (.enter q.1 (x :: args))
  | _ => none

abbrev OF := AP → Nat → T Value → AHeap → Option (ANext × AHeap)
def retV (o : Option Value) (h : AHeap) : Option (ANext × AHeap) := ob o fun v => some (.value v, h)
def retW (o : Option (Value × AHeap)) : Option (ANext × AHeap) := op2 o fun v h => some (.value v, h)
def retH (o : Option AHeap) : Option (ANext × AHeap) := ob o fun h => some (.skip, h)

def rowV [iF : Forc] (h : AHeap) (e : TypeId) (l : List Value) : Option (ANext × AHeap) :=
  ci (noAggs l) (some (.value (ptrV h.next), newRowA h e l false)) none

/-- an iterator's address -/
def iterOf {β : Type} (v : Value) (f : Nat → Option β) : Option β :=
  match v with
  | .pointer a => ob a fun a => spotless a fun b o => ci (Nat.beq o 0) (f b) none
  | _ => none

def rangeM [iF : Forc] (h : AHeap) : Option Nat → Option (ANext × AHeap)
  | none => some (.value (ptrV h.next), h.push (.mapIter none 0 [] 0))
  | some m => onMap (h.get m) fun _ clock => some (.value (ptrV h.next), h.push (.mapIter (some m) clock [] clock))
def rangeA [iF : Forc] (h : AHeap) (v : Value) : TypeDesc → Option (ANext × AHeap)
  | .string => (match v with
    | .string s => some (.value (ptrV h.next), h.push (.strIter (strL s) 0))
    | _ => none)
  | .map _ _ => (match v with
    | .map r => rangeM h r
    | _ => none)
  | _ => none

def stepS [iF : Forc] (h : AHeap) (r : Nat) (pos : Nat) : List UInt8 → Option (ANext × AHeap)
  | [] => some (.value (.tuple ⟨[.bool false]⟩), h)
  | c :: l => ci (Nat.blt c.toNat 128) (fN pos fun pos => fN c.toNat fun c => some (.value (.tuple ⟨[.bool true, .int .i64 (.ofNat pos), .int .i32 (.ofNat c)]⟩), h.put r (.strIter l (Nat.succ pos)))) none

/-- the entries of a map that were not met yet -/
def leftOf (seen : List Nat) : List MapEntry → List MapEntry
  | [] => []
  | e :: l => ci (memN e.born seen) (leftOf seen l) (e :: leftOf seen l)
def bornBelow (n : Nat) : List MapEntry → Bool
  | [] => true
  | e :: l => Nat.blt e.born n && bornBelow n l
def findB (b : Nat) : List MapEntry → Option MapEntry
  | [] => none
  | e :: l => ci (Nat.beq e.born b) (some e) (findB b l)
/-- what is met next, if that is not open -/
def stepM (h : AHeap) (r m since : Nat) (seen : List Nat) (clock : Nat) : List MapEntry → Option (ANext × AHeap)
  | [] => some (.value (.tuple ⟨[.bool false]⟩), h)
  | e :: l => (match l with
    | [] => some (.value (.tuple ⟨[.bool true, e.key, e.val]⟩), h.put r (.mapIter (some m) since (e.born :: seen) clock))
    | _ :: _ => none)
def nextM (h : AHeap) (r since : Nat) (seen : List Nat) (last : Nat) : Option Nat → Option (ANext × AHeap)
  | none => some (.value (.tuple ⟨[.bool false]⟩), h)
  | some m => onMap (h.get m) fun es clock => ci (Nat.beq clock since && Nat.ble since last && bornBelow since es) (stepM h r m since seen clock (leftOf seen es)) none
def nextA [iF : Forc] (st : Bool) (h : AHeap) (r : Nat) : Option (ANext × AHeap) :=
  ob (h.get r) fun o => (match o with
    | .strIter s pos => ci st (stepS h r pos s) none
    | .mapIter m since seen last => ci st none (nextM h r since seen last m)
    | _ => none)
def entryB (h : AHeap) (m last : Nat) : List Nat → Option (ANext × AHeap)
  | [] => none
  | b :: _ => onMap (h.get m) fun es clock => ci (Nat.beq clock last) (ob (findB b es) fun e => some (.value (.tuple ⟨[e.key, e.val]⟩), h)) none
def entryA (h : AHeap) (r : Nat) : Option (ANext × AHeap) :=
  ob (h.get r) fun o => (match o with
    | .mapIter m _ seen last => ob m fun m => entryB h m last seen
    | _ => none)

def isMapD : TypeDesc → Bool
  | .map _ _ => true
  | _ => false
def builtinW [iF : Forc] (p : AP) (h : AHeap) (argTypes : List TypeId) (vs : List Value) : Builtin → Option (ANext × AHeap)
  | .append => retW (appendA p h argTypes vs)
  | .copy => retW (copyA p h argTypes vs)
  | .clear => retW (clearA p h argTypes vs)
  | .delete => one argTypes fun t => two vs fun m k => ob (deleteA p h t m k) fun h => some (.value (.tuple #[]), h)
  | .recover => some (.recover, h)
  | .len => retV (builtinQ p h argTypes vs .len) h
  | .cap => retV (builtinQ p h argTypes vs .cap) h
  | .min => retV (builtinQ p h argTypes vs .min) h
  | .max => retV (builtinQ p h argTypes vs .max) h
  | _ => none

def callF [iF : Forc] (c : Call) : OF := fun p gl tm h => match c.callee with
  | .builtin b => ob (evalL tm gl c.args.toList) fun vs => builtinW p h c.argTypes.toList vs b
  | .value f => ob (evalA tm gl f) fun v => ob (evalL tm gl c.args.toList) fun vs => ob (calleeA v vs) fun n => some (n, h)
  | .invoke r name => ob (evalA tm gl r) fun v => ob (evalL tm gl c.args.toList) fun vs => ob (invokeA p name v vs) fun n => some (n, h)

def deferF (c : Call) : OF := fun _ gl tm h => match c.callee with
  | .value f => ob (evalA tm gl f) fun v => ob (evalL tm gl c.args.toList) fun vs => (match v with
    | .func fn first cap => some (.defer { target := .fn fn cap, args := ⟨first.toList ++ vs⟩ }, h)
    | _ => none)
  | _ => none

def updF (t : TypeId) (m k x : Operand) : OF := fun p gl tm h =>
  ob (evalA tm gl m) fun m => ob (evalA tm gl k) fun k => ob (evalA tm gl x) fun x => retH (mapUpdateA p h t m k x)

/-- one operation: what it yields, and the memory -/
def operF [iF : Forc] : Op → OF
  | .alloc e => fun p _ _ h => ob (p.zero e) fun z => ci (lit z) (rowV h e (cellsOf z)) none
  | .box e x => fun _ gl tm h => ob (evalA tm gl x) fun v => rowV h e (cellsOf v)
  | .buildSlice t len parts => fun p gl tm h => ob (evalP tm gl parts.toList) fun ps => retW (buildSliceA p h t len ps)
  | .store t a x => fun p gl tm h => ob (evalA tm gl a) fun a => ob (evalA tm gl x) fun v => (match a with
    | .pointer a => ob a fun a => retH (storeA p h t a v)
    | _ => none)
  | .makeMap t r => fun p gl tm h => (match r with
    | none => some (.value (.map (some h.next)), h.push (.map [] 0))
    | some r => ob (p.und t) fun d => ci (isMapD d) (ob (evalA tm gl r) fun v => ob (natOf v) fun _ => some (.value (.map (some h.next)), h.push (.map [] 0))) none)
  | .makeSlice t l c => fun p gl tm h => ob (evalA tm gl l) fun l => ob (evalA tm gl c) fun c => retW (makeSliceA p h t l c)
  | .mapUpdate t m k x => updF t m k x
  | .insert t m k x => updF t m k x
  | .convert s d x => fun p gl tm h => ob (evalA tm gl x) fun v => retW (convW p h s d v)
  | .range t x => fun p gl tm h => ob (p.und t) fun d => ob (evalA tm gl x) fun v => rangeA h v d
  | .next it st => fun _ gl tm h => ob (evalA tm gl it) fun v => iterOf v fun r => nextA st h r
  | .entry it => fun _ gl tm h => ob (evalA tm gl it) fun v => iterOf v fun r => entryA h r
  | .call c => callF c
  | .defer c => deferF c
  | .panic x => fun _ gl tm h => ob (evalA tm gl x) fun v => (match v with | .iface t v => some (.panic (.iface t v), h) | _ => none)
  | .move x => fun _ gl tm h => retV (evalA tm gl x) h
  | .assign x => fun _ gl tm h => retV (evalA tm gl x) h
  | .pick c a b => fun p gl tm h => retV (quietF (.pick c a b) p gl tm h) h
  | .build t parts => fun p gl tm h => retV (quietF (.build t parts) p gl tm h) h
  | .load t a => fun p gl tm h => retV (quietF (.load t a) p gl tm h) h
  | .nilCheck x => fun p gl tm h => retV (quietF (.nilCheck x) p gl tm h) h
  | .binOp op t x y u => fun p gl tm h => retV (quietF (.binOp op t x y u) p gl tm h) h
  | .unOp op t x => fun p gl tm h => retV (quietF (.unOp op t x) p gl tm h) h
  | .sliceToArrayPointer t x => fun p gl tm h => retV (quietF (.sliceToArrayPointer t x) p gl tm h) h
  | .makeInterface t x => fun p gl tm h => retV (quietF (.makeInterface t x) p gl tm h) h
  | .makeFunc fn a b => fun p gl tm h => retV (quietF (.makeFunc fn a b) p gl tm h) h
  | .slice t x lo hi mx => fun p gl tm h => retV (quietF (.slice t x lo hi mx) p gl tm h) h
  | .fieldAddr t x f => fun p gl tm h => retV (quietF (.fieldAddr t x f) p gl tm h) h
  | .field t x f => fun p gl tm h => retV (quietF (.field t x f) p gl tm h) h
  | .indexAddr t x i => fun p gl tm h => retV (quietF (.indexAddr t x i) p gl tm h) h
  | .index t x i => fun p gl tm h => retV (quietF (.index t x i) p gl tm h) h
  | .lookup t x i ok => fun p gl tm h => retV (quietF (.lookup t x i ok) p gl tm h) h
  | .typeAssert x t a ok => fun p gl tm h => retV (quietF (.typeAssert x t a ok) p gl tm h) h
  | .extract x i => fun p gl tm h => retV (quietF (.extract x i) p gl tm h) h
  | _ => fun _ _ _ _ => none

end Go.Am
end


noncomputable section
namespace Go.Am
open Go Forc

/-! ## regions that draw their order -/
/-- an entry of a plan: its number, the operation, its kind (0: it reads; 1: it acts; 2: it makes a row of its own), what must be ahead of it -/
structure PE where
  idx : Nat
  op : Oper
  kind : Nat
  preds : List Nat

def bindsAny (e : Edge) : Bool := match e.ground with | .textOnly _ => false | .gcOnly _ => false | _ => true
def predsOf (o : Oper) : List Nat := (o.after.toList.filter bindsAny).map (·.on)
def peKind (o : Op) : Nat := match o with
  | .alloc _ => 2
  | .box _ _ => 2
  | .buildSlice _ _ _ => 2
  | o => ci (isQuiet o) 0 1
/-- what must be ahead of it, and what must be ahead of that -/
def addN (l : List Nat) : List Nat → List Nat
  | [] => l
  | j :: js => ci (memN j l) (addN l js) (addN (j :: l) js)
def predsIn (j : Nat) : List PE → List Nat
  | [] => []
  | e :: l => ci (Nat.beq e.idx j) e.preds (predsIn j l)
def closeP (acc : List PE) : List Nat → List Nat → List Nat
  | [], out => out
  | j :: js, out => closeP acc js (addN out (j :: predsIn j acc))
def peOf (acc : List PE) : Nat → List Oper → List PE
  | _, [] => []
  | i, o :: l => { idx := i, op := o, kind := peKind o.op, preds := closeP acc (predsOf o) [] } ::
      peOf ({ idx := i, op := o, kind := peKind o.op, preds := closeP acc (predsOf o) [] } :: acc) (Nat.succ i) l

def hasIdx (i : Nat) : List PE → Bool
  | [] => false
  | e :: l => ci (Nat.beq e.idx i) true (hasIdx i l)
/-- is nothing that is still to come to be ahead of it? -/
def freeOf (left : List PE) : List Nat → Bool
  | [] => true
  | j :: l => ci (hasIdx j left) false (freeOf left l)
def pick (want : PE → Bool) (left : List PE) : List PE → Option (PE × List PE)
  | [] => none
  | e :: l => ci (want e && freeOf left e.preds) (some (e, l)) (op2 (pick want left l) fun x r => some (x, e :: r))
def orElseO {α : Type} (a b : Option α) : Option α := match a with | some x => some x | none => b
def order : Nat → List PE → Option (List PE)
  | 0, left => (match left with | [] => some [] | _ :: _ => none)
  | f + 1, left => (match left with
    | [] => some []
    | _ :: _ => op2 (orElseO (pick (fun e => not (Nat.beq e.kind 1)) left left) (pick (fun e => Nat.beq e.kind 1) left left)) fun e r =>
        ob (order f r) fun l => some (e :: l))

def tmpsOf : List Operand → List Nat
  | [] => []
  | o :: l => (match o with | .tmp t => t :: tmpsOf l | _ => tmpsOf l)
def guardDst (all : List Oper) (o : Oper) : List Nat :=
  match o.guard with
  | some q => od [] (ob (nth all q.1) fun g => ob g.dst fun d => some [d])
  | none => []
def readsOf (all : List Oper) (o : Oper) : List Nat := tmpsOf o.op.operands.toList ++ guardDst all o

def anyHas (l : List PE) : List Nat → Bool
  | [] => false
  | j :: js => ci (hasIdx j l) true (anyHas l js)
/-- S1: each entry waits for one of these -/
def s1 (tail : List PE) : List PE → Bool
  | [] => true
  | y :: l => anyHas tail y.preds && s1 tail l
def dstIn (d : Option Nat) (l : List Nat) : Bool := match d with | some d => memN d l | none => false
def sameDst (a b : Option Nat) : Bool := match a, b with | some x, some y => Nat.beq x y | _, _ => false
/-- x is ahead of y -/
def pairOk (all : List Oper) (x y : PE) : Bool :=
  (Nat.beq x.kind 1 || not (dstIn x.op.dst (readsOf all y.op)) || memN x.idx y.preds) &&
  ci (Nat.beq y.kind 1)
    (Nat.beq x.kind 1 || not (dstIn y.op.dst (readsOf all x.op) || sameDst y.op.dst x.op.dst) || memN x.idx y.preds)
    (not (sameDst y.op.dst x.op.dst) && (Nat.beq x.kind 1 || not (dstIn y.op.dst (readsOf all x.op))))
def pairsOk (all : List Oper) (x : PE) : List PE → Bool
  | [] => true
  | y :: l => pairOk all x y && pairsOk all x l
/-- it does not look at what it yields -/
def selfOk (all : List Oper) (e : PE) : Bool := Nat.beq e.kind 1 || not (dstIn e.op.dst (readsOf all e.op))
def planOk (all : List Oper) : List PE → Bool
  | [] => true
  | e :: l => selfOk all e && pairsOk all e l && ci (Nat.beq e.kind 1) (s1 (e :: l) l) true && planOk all l
def allBelow (n : Nat) : List Nat → Bool
  | [] => true
  | j :: l => Nat.blt j n && allBelow n l
def predsOk : List PE → Bool
  | [] => true
  | e :: l => allBelow e.idx e.preds && predsOk l
def drawPlan (all : List Oper) : Option (List PE) :=
  ci (predsOk (peOf [] 0 all)) (ob (order (lenL all) (peOf [] 0 all)) fun l => ci (planOk all l) (some l) none) none

/-! ## values, held against each other -/
def fnEq : Fn → Fn → Bool
  | .func f, g => (match g with | .func g => Nat.beq f g | _ => false)
  | .yield f, g => (match g with | .yield g => Nat.beq f g | _ => false)
  | _, _ => false
def addrEq (a b : Addr) : Bool := match a, b with | ⟨x, o, s⟩, ⟨y, q, t⟩ => Nat.beq x y && Nat.beq o q && s.isNone && t.isNone
def optEq {α : Type} (eq : α → α → Bool) : Option α → Option α → Bool
  | none, b => b.isNone
  | some a, b => (match b with | none => false | some b => eq a b)
def fkEq : FloatKind → FloatKind → Bool
  | .f32, k => (match k with | .f32 => true | .f64 => false)
  | .f64, k => (match k with | .f32 => false | .f64 => true)
def veqF : Nat → Value → Value → Bool
  | 0, _, _ => false
  | f + 1, v, w => (match v with
    | .bool a => (match w with | .bool b => bEq a b | _ => false)
    | .int k a => (match w with | .int k' b => kEq k k' && eqI a b | _ => false)
    | .float k a => (match w with | .float k' b => fkEq k k' && Nat.beq a b | _ => false)
    | .string a => (match w with | .string b => eqB (strL a) (strL b) | _ => false)
    | .pointer a => (match w with | .pointer b => optEq addrEq a b | _ => false)
    | .slice a l c => (match w with | .slice b l' c' => optEq addrEq a b && Nat.beq l l' && Nat.beq c c' | _ => false)
    | .map a => (match w with | .map b => optEq Nat.beq a b | _ => false)
    | .chan a => (match w with | .chan b => optEq Nat.beq a b | _ => false)
    | .nilFunc => (match w with | .nilFunc => true | _ => false)
    | .nilIface => (match w with | .nilIface => true | _ => false)
    | .func g a b => (match w with | .func g' a' b' => fnEq g g' && all f a.toList a'.toList && all f b.toList b'.toList | _ => false)
    | .iface t v => (match w with | .iface t' v' => Nat.beq t t' && veqF f v v' | _ => false)
    | .agg a => (match w with | .agg b => all f a.toList b.toList | _ => false)
    | .tuple a => (match w with | .tuple b => all f a.toList b.toList | _ => false)
    | _ => false)
where
  all (f : Nat) : List Value → List Value → Bool
    | [], y => (match y with | [] => true | _ :: _ => false)
    | a :: x, y => (match y with | [] => false | b :: y => veqF f a b && all f x y)
def veq (v w : Value) : Bool := veqF 6 v w
def veqs (v w : List Value) : Bool := veqF.all 6 v w

/-! ## frames -/
inductive AItem where
  | code (c : Code)
  | inBlock (id : Nat)
  | inLoop (body : Code)
  | inScope (body : Code)
  | reg (ops : Array Oper) (rest : List Oper)
  | draw (ops : Array Oper) (rest alive : List PE)
  | rangeF (l : Nat)
  | endRangeF (l : Nat)
  | beginRound

structure AFrame where
  fn : FuncId
  nt : Nat
  tmps : T Value
  todo : List AItem
  defers : List Deferred
  mode : FrameMode
  kind : CallKind
  roundOf : Option Nat

structure AState where
  fr : AFrame
  cs : List AFrame
  h : AHeap

abbrev Orc := List Value → AHeap → Option (Value × AHeap)
structure Cfg where
  p : AP
  gl : Nat
  orc : T Orc
  /-- functions that look at their arguments alone, and leave no trace -/
  pur : T (List Value → Option Value) := .e

def undefA : Value := .tuple #[]
def putA (nt : Nat) (tm : T Value) (d : Option Tmp) (v : Value) : T Value :=
  match d with
  | none => tm
  | some d => ci (Nat.blt d nt) (tm.set d v) tm

def isB (b : Bool) : Value → Bool
  | .bool c => bEq b c
  | _ => false
/-- is an operation carried out? -/
def wantedA (ops : Array Oper) (tm : T Value) (o : Oper) : Option Bool :=
  match o.guard with
  | none => some true
  | some q => ob (nth ops.toList q.1) fun g => ob g.dst fun d => ob (tm.get d) fun v => some (isB q.2 v)

def dropPreds (js : List Nat) : List PE → List PE
  | [] => []
  | e :: l => ci (memN e.idx js) (dropPreds js l) (e :: dropPreds js l)

/-- the row that an operation of kind 2 has made -/
def floatId : Op → Value → Option Nat
  | .buildSlice _ len _ => fun v => (match v with
    | .slice a l c => ob a fun a => spotless a fun b o => ci (Nat.beq o 0 && Nat.beq l len && Nat.beq c len) (some b) none
    | _ => none)
  | _ => fun v => (match v with
    | .pointer a => ob a fun a => spotless a fun b o => ci (Nat.beq o 0) (some b) none
    | _ => none)
def rowAt {β : Type} (h : AHeap) (i : Nat) (f : List Value → TypeId → Option β) : Option β :=
  onCells (h.get i) fun c n e opn ro => ci (opn || ro) none (ob (rd c n 0) fun l => f l e)

/-- does an operation that was carried out yield the same still? -/
def again [iF : Forc] (C : Cfg) (ops : Array Oper) (h : AHeap) (tm : T Value) (e : PE) : Option Bool :=
  ob e.op.dst fun d => ob (tm.get d) fun v => ob (wantedA ops tm e.op) fun b => ci b
    (ci (Nat.beq e.kind 2)
      (ob (floatId e.op.op v) fun i => op2 (operF e.op.op C.p C.gl tm h) fun n h' => (match n with
        | .value v' => ob (floatId e.op.op v') fun i' => ci (Nat.beq i' h.next) (rowAt h' i' fun l t => rowAt h i fun l' t' => some (veqs l l' && Nat.beq t t')) none
        | _ => none))
      (ob (quietF e.op.op C.p C.gl tm h) fun v' => some (veq v v')))
    (some (veq v undefA))
def allAgain [iF : Forc] (C : Cfg) (ops : Array Oper) (h : AHeap) (tm : T Value) : List PE → Bool
  | [] => true
  | e :: l => ci (od false (again C ops h tm e)) (allAgain C ops h tm l) false

/-- what stands first in a region has yielded v -/
def finishT [iF : Forc] (C : Cfg) (h : AHeap) (nt : Nat) (tm : T Value) (v : Value) : List AItem → Option (T Value × List AItem)
  | [] => none
  | i :: k => (match i with
    | .reg ops rest => (match rest with
      | [] => none
      | o :: rest => some (putA nt tm o.dst v, .reg ops rest :: k))
    | .draw ops rest alive => (match rest with
      | [] => none
      | e :: rest => ci (allAgain C ops h (putA nt tm e.op.dst v) (dropPreds e.preds alive))
          (some (putA nt tm e.op.dst v, .draw ops rest (dropPreds e.preds alive) :: k)) none)
    | .rangeF l => some (tm, .endRangeF l :: k)
    | _ => none)
def finishA [iF : Forc] (C : Cfg) (h : AHeap) (fr : AFrame) (v : Value) : Option AFrame :=
  match fr with
  | ⟨fn, nt, tm, todo, df, md, kd, ro⟩ => (match md with
    | .run => op2 (finishT C h nt tm v todo) fun tm todo => some ⟨fn, nt, tm, todo, df, .run, kd, ro⟩
    | _ => none)

def exitToA (id : Nat) : List AItem → Option (List AItem)
  | [] => none
  | i :: k => (match i with
    | .inBlock id' => ci (Nat.beq id' id) (some k) (exitToA id k)
    | _ => exitToA id k)

/-- the code behind a label -/
def labelA (l : Nat) : Code → Option Code
  | .seq a b => (match labelA l a with
    | some rest => some (.seq rest b)
    | none => labelA l b)
  | .label l' => ci (Nat.beq l' l) (some .skip) none
  | _ => none
def gotoA (l : Nat) : List AItem → Option (List AItem)
  | [] => none
  | i :: k => (match i with
    | .inScope body => (match labelA l body with
      | some rest => some (.code rest :: .inScope body :: k)
      | none => gotoA l k)
    | _ => gotoA l k)

def settleA : FrameMode → FrameMode
  | .panicking ({ recovered := true, .. } :: older) =>
    match older.dropWhile (!·.goexit) with
    | [] => .returning
    | rest => .panicking rest
  | m => m

def raiseM (vs : List PanicEntry) : FrameMode → FrameMode
  | .panicking chain => .panicking (vs ++ chain)
  | _ => .panicking vs
/-- of what a frame had to do, that which says what a region's order may have put off -/
def putOff : List AItem → List AItem
  | [] => []
  | i :: _ => (match i with
    | .draw ops rest alive => [.draw ops rest alive]
    | _ => [])
def dstsOf : List PE → List Nat
  | [] => []
  | e :: l => (match e.op.dst with | some d => d :: dstsOf l | none => dstsOf l)
/-- the temporaries that may not be set -/
def offT : List AItem → List Nat
  | [] => []
  | i :: _ => (match i with
    | .draw _ _ alive => dstsOf alive
    | _ => [])
def raiseA (fr : AFrame) (vs : List PanicEntry) : AFrame :=
  match fr with
  | ⟨fn, nt, tm, todo, df, md, kd, ro⟩ => ⟨fn, nt, tm, putOff todo, df, raiseM vs md, kd, ro⟩

def doReturnA [iF : Forc] (C : Cfg) (kd : CallKind) (cs : List AFrame) (v : Value) (h : AHeap) : Option AState :=
  match cs with
  | [] => none
  | c :: rest => (match kd with
    | .normal => ob (finishA C h c v) fun c' => some ⟨c', rest, h⟩
    | .deferred => (match c with
      | ⟨fn, nt, tm, todo, df, md, kd, ro⟩ => (match md with
        | .run => none
        | md => some ⟨⟨fn, nt, tm, todo, df, settleA md, kd, ro⟩, rest, h⟩))
    | _ => none)

def enterA [iF : Forc] (C : Cfg) (f : FuncId) (args : List Value) (kind : CallKind) : Option AFrame :=
  ob (C.p.funcs.get f) fun fn => ob fn.body fun c => fN (lenL args) fun n =>
    some ⟨f, ci (Nat.ble fn.ntmps n) n fn.ntmps, T.ofList args, [.code c], [], .run, kind, none⟩

def setParams (nt : Nat) : List Tmp → List Value → T Value → Option (T Value)
  | [], vs, tm => (match vs with | [] => some tm | _ :: _ => none)
  | t :: ts, vs, tm => (match vs with | [] => none | v :: vs => setParams nt ts vs (putA nt tm (some t) v))

def recoverA [iF : Forc] (C : Cfg) (fr : AFrame) (cs : List AFrame) (h : AHeap) : Option AState :=
  match fr.kind with
  | .normal => ob (finishA C h fr .nilIface) fun fr => some ⟨fr, cs, h⟩
  | .deferred => (match cs with
    | [] => none
    | ⟨fn, nt, tm, todo, df, md, kd, ro⟩ :: rest => (match md with
      | .panicking ({ v, recovered := false, goexit := false } :: older) =>
        ob (finishA C h fr v) fun fr => some ⟨fr, ⟨fn, nt, tm, todo, df, .panicking ({ v, recovered := true } :: older), kd, ro⟩ :: rest, h⟩
      | md => ob (finishA C h fr .nilIface) fun fr => some ⟨fr, ⟨fn, nt, tm, todo, df, md, kd, ro⟩ :: rest, h⟩))
  | _ => none

/-- what an operation that is no plain one leads to -/
def act [iF : Forc] (C : Cfg) (fr : AFrame) (cs : List AFrame) (h : AHeap) : ANext → Option AState
  | .value v => ob (finishA C h fr v) fun fr => some ⟨fr, cs, h⟩
  | .skip => ob (finishA C h fr undefA) fun fr => some ⟨fr, cs, h⟩
  | .enter f args => (match C.orc.get f with
    | some g => op2 (g args h) fun v h' => ob (finishA C h' fr v) fun fr => some ⟨fr, cs, h'⟩
    | none => ob (enterA C f args .normal) fun fr' => some ⟨fr', fr :: cs, h⟩)
  | .round l args => onLoop (h.get l) fun r => ob (setParams r.nt r.params.toList args r.tmps) fun tm =>
      some ⟨⟨r.fn, r.nt, tm, [.code r.assign, .beginRound, .code r.body], [], .run, .normal, some l⟩, fr :: cs, h⟩
  | .defer d => (match fr with
    | ⟨fn, nt, tm, todo, df, md, kd, ro⟩ => (match ro with
      | none => ob (finishA C h ⟨fn, nt, tm, todo, d :: df, md, kd, none⟩ undefA) fun fr => some ⟨fr, cs, h⟩
      | some _ => none))
  | .recover => (match fr.roundOf with
    | some _ => none
    | none => recoverA C fr cs h)
  | .panic v => some ⟨raiseA fr [{ v, recovered := false }], cs, h⟩

/-- a region whose order is fixed: on to the first operation that is no plain one -/
structure Stop where
  rest : List Oper
  tm : T Value
  h : AHeap
  n : Option ANext
def opsA [iF : Forc] (p : AP) (gl : Nat) (nt : Nat) (ops : Array Oper) : List Oper → T Value → AHeap → Option Stop
  | [], tm, h => some ⟨[], tm, h, none⟩
  | o :: rest, tm, h =>
    ob (wantedA ops tm o) fun b => ci b
      (op2 (operF o.op p gl tm h) fun n h' => (match n with
        | .value v => opsA p gl nt ops rest (putA nt tm o.dst v) h'
        | .skip => opsA p gl nt ops rest (putA nt tm o.dst undefA) h'
        | n => some ⟨o :: rest, tm, h', some n⟩))
      (opsA p gl nt ops rest (putA nt tm o.dst undefA) h)

/-- what a frame does next: all its parts, but for 'todo', and what is around it -/
def purH (C : Cfg) (o : Op) : ANext → Option Value
  | .enter f args => ob (C.pur.get f) fun g => g args
  | .value v => (match o with
    | .assign _ => some v
    | _ => none)
  | _ => none
abbrev KF := Cfg → FuncId → Nat → T Value → List Deferred → CallKind → Option Nat → List AFrame → AHeap → Option AState

def leaveA [iF : Forc] (jump : Option Code) (todo : List AItem) : KF := fun C fn nt tm df kd ro cs h =>
  match ro with
  | none => (match jump with
    | none => some ⟨⟨fn, nt, tm, todo, df, .returning, kd, none⟩, cs, h⟩
    | some c => (match c with
      | .ret => some ⟨⟨fn, nt, tm, todo, df, .returning, kd, none⟩, cs, h⟩
      | _ => none))
  | some l => onLoop (h.get l) fun r => (match df with
    | [] => doReturnA C kd cs (.bool jump.isNone)
        (h.put l (.loop ⟨ci jump.isNone .ready .done, jump, r.fn, r.nt, r.tmps, r.params, r.assign, r.body, r.defers⟩))
    | _ :: _ => none)

def toK (k : List AItem) : KF := fun _ fn nt tm df kd ro cs h => some ⟨⟨fn, nt, tm, k, df, .run, kd, ro⟩, cs, h⟩

def collectedAt (b : Nat) : List Deferred := [{ target := .collected b, args := #[] }]
/-- the block for the rounds' deferred calls -/
def aroundA [iF : Forc] {β : Type} (ro : Option Nat) (h : AHeap) (f : Nat → List Deferred → AHeap → Option β) : Option β :=
  match ro with
  | some l => onLoop (h.get l) fun r => f r.defers [] h
  | none => f h.next (collectedAt h.next) (h.push (.deferred (some [])))

def rangeFuncK [iF : Forc] (f : Operand) (params : Array Tmp) (assign body : Code) (k : List AItem) : KF := fun C fn nt tm df kd ro cs h =>
  ob (evalA tm C.gl f) fun v => aroundA ro h fun b mark h => ob (calleeA v [.func (.yield h.next) #[] #[]]) fun n =>
    act C ⟨fn, nt, tm, .rangeF h.next :: k, mark ++ df, .run, kd, ro⟩ cs (h.push (.loop ⟨.ready, none, fn, nt, tm, params, assign, body, b⟩)) n

/-- a code item is taken apart, down to the first piece that does anything -/
def codeK [iF : Forc] : Code → List AItem → KF
  | .skip => fun k => toK k
  | .label _ => fun k => toK k
  | .region _ ops draw => fun k => (match draw with
    | false => toK (.reg ops ops.toList :: k)
    | true => fun C fn nt tm df kd ro cs h => ob (drawPlan ops.toList) fun l => toK (.draw ops l [] :: k) C fn nt tm df kd ro cs h)
  | .seq a b => fun k => codeK a (.code b :: k)
  | .cond c a b => fun k C fn nt tm df kd ro cs h => ob (evalA tm C.gl c) fun v => (match v with
    | .bool t => ci t (codeK a k C fn nt tm df kd ro cs h) (codeK b k C fn nt tm df kd ro cs h)
    | _ => none)
  | .block id b => fun k => codeK b (.inBlock id :: k)
  | .loop b => fun k => codeK b (.inLoop b :: k)
  | .rangeFunc f ps assign body => fun k => rangeFuncK f ps assign body k
  | .exit id => fun k => (match exitToA id k with
    | some k' => toK k'
    | none => leaveA (some (.exit id)) (.code (.exit id) :: k))
  | .ret => fun k => leaveA (some .ret) (.code .ret :: k)
  | .scope b => fun k => codeK b (.inScope b :: k)
  | .goto l => fun k => (match gotoA l k with
    | some k' => toK k'
    | none => fun _ _ _ _ _ _ _ _ _ => none)
  | .refuse _ => fun _ _ _ _ _ _ _ _ _ _ => none

def regK [iF : Forc] (ops : Array Oper) (rest : List Oper) (k : List AItem) : KF := fun C fn nt tm df kd ro cs h =>
  ob (opsA C.p C.gl nt ops rest tm h) fun s => (match s with
    | ⟨rest, tm, h, n⟩ => (match n with
      | none => some ⟨⟨fn, nt, tm, k, df, .run, kd, ro⟩, cs, h⟩
      | some n => act C ⟨fn, nt, tm, .reg ops rest :: k, df, .run, kd, ro⟩ cs h n))

def drawK [iF : Forc] (ops : Array Oper) (rest alive : List PE) (k : List AItem) : KF := fun C fn nt tm df kd ro cs h =>
  match rest with
  | [] => some ⟨⟨fn, nt, tm, k, df, .run, kd, ro⟩, cs, h⟩
  | e :: tail => ob (wantedA ops tm e.op) fun b => ci b
    (ci (Nat.beq e.kind 1)
      (op2 (operF e.op.op C.p C.gl tm h) fun n h' => (match purH C e.op.op n with
        | some v => some ⟨⟨fn, nt, putA nt tm e.op.dst v, .draw ops tail (dropPreds e.preds alive) :: k, df, .run, kd, ro⟩, cs, h'⟩
        | none => act C ⟨fn, nt, tm, .draw ops (e :: tail) alive :: k, df, .run, kd, ro⟩ cs h' n))
      (ci (Nat.beq e.kind 2)
        (op2 (operF e.op.op C.p C.gl tm h) fun n h' => (match n with
          | .value v => ob e.op.dst fun d => ci (Nat.blt d nt && allAgain C ops h' (tm.set d v) (e :: alive))
              (some ⟨⟨fn, nt, tm.set d v, .draw ops tail (e :: alive) :: k, df, .run, kd, ro⟩, cs, h'⟩) none
          | _ => none))
        (ob (quietF e.op.op C.p C.gl tm h) fun v => ob e.op.dst fun d => ci (Nat.blt d nt)
          (some ⟨⟨fn, nt, tm.set d v, .draw ops tail (e :: alive) :: k, df, .run, kd, ro⟩, cs, h⟩) none)))
    (ci (Nat.beq e.kind 1)
      (ob (finishA C h ⟨fn, nt, tm, .draw ops (e :: tail) alive :: k, df, .run, kd, ro⟩ undefA) fun fr => some ⟨fr, cs, h⟩)
      (ob e.op.dst fun d => ci (Nat.blt d nt) (some ⟨⟨fn, nt, tm.set d undefA, .draw ops tail (e :: alive) :: k, df, .run, kd, ro⟩, cs, h⟩) none))

def pendK (c : Option Code) (k : List AItem) : List AItem := match c with | some c => .code c :: k | none => k
def endRangeK (l : Nat) (k : List AItem) : KF := fun _ fn nt tm df kd ro cs h =>
  onLoop (h.get l) fun r => (match r.state with
    | .busy => none
    | _ => some ⟨⟨fn, nt, tm, pendK r.pending k, df, .run, kd, ro⟩, cs, h.put l (.loop ⟨.exhausted, r.pending, r.fn, r.nt, r.tmps, r.params, r.assign, r.body, r.defers⟩)⟩)
def beginK (k : List AItem) : KF := fun _ fn nt tm df kd ro cs h =>
  ob ro fun l => onLoop (h.get l) fun r => (match r.state with
    | .ready => some ⟨⟨fn, nt, tm, k, df, .run, kd, ro⟩, cs, h.put l (.loop ⟨.busy, r.pending, r.fn, r.nt, r.tmps, r.params, r.assign, r.body, r.defers⟩)⟩
    | _ => none)

def itemK [iF : Forc] : AItem → List AItem → KF
  | .code c => fun k => codeK c k
  | .inBlock _ => fun k => toK k
  | .inLoop b => fun k => codeK b (.inLoop b :: k)
  | .inScope _ => fun k => toK k
  | .reg ops rest => fun k => regK ops rest k
  | .draw ops rest alive => fun k => drawK ops rest alive k
  | .rangeF _ => fun _ _ _ _ _ _ _ _ _ _ => none
  | .endRangeF l => fun k => endRangeK l k
  | .beginRound => fun k => beginK k

def todoK [iF : Forc] : List AItem → KF
  | [] => leaveA none []
  | i :: k => itemK i k

def resultsA (p : AP) (h : AHeap) (tm : T Value) (off : List Nat) : List ResultVar → Option (List Value)
  | [] => some []
  | r :: l => ob (match r with
      | .tmp t => ci (memN t off) none (tm.get t)
      | .cell a t => ci (memN a off) none (ob (tm.get a) fun v => (match v with | .pointer a => ob a fun a => loadA p h t a | _ => none))) fun v =>
    ob (resultsA p h tm off l) fun r => some (v :: r)

def resultV (l : List Value) : Value :=
  match l with
  | [] => .tuple ⟨[]⟩
  | v :: r => (match r with | [] => v | _ :: _ => .tuple ⟨l⟩)

def unwindT [iF : Forc] (C : Cfg) (d : Deferred) (ds : List Deferred) (fn : FuncId) (nt : Nat) (tm : T Value) (todo : List AItem) (md : FrameMode) (kd : CallKind) (ro : Option Nat) (cs : List AFrame) (h : AHeap) : Option AState :=
  match d.target with
  | .collected b => ob (h.get b) fun o => (match o with
    | .deferred l => ob l fun l => some ⟨⟨fn, nt, tm, todo, l ++ ds, md, kd, ro⟩, cs, h.put b (.deferred none)⟩
    | _ => none)
  | .fn g cap => (match g with
    | .func f => ob (enterA C f (d.args.toList ++ cap.toList) .deferred) fun fr => some ⟨fr, ⟨fn, nt, tm, todo, ds, md, kd, ro⟩ :: cs, h⟩
    | _ => none)
  | _ => none

def unwindA [iF : Forc] (C : Cfg) (fn : FuncId) (nt : Nat) (tm : T Value) (todo : List AItem) (df : List Deferred) (md : FrameMode) (kd : CallKind) (ro : Option Nat) (cs : List AFrame) (h : AHeap) : Option AState :=
  match df with
  | d :: ds => unwindT C d ds fn nt tm todo md kd ro cs h
  | [] => (match md with
    | .run => none
    | .panicking chain => (match cs with
      | c :: rest => some ⟨raiseA c chain, rest, h⟩
      | [] => none)
    | .returning => ob (C.p.funcs.get fn) fun f => ob (resultsA C.p h tm (offT todo) f.results.toList) fun l => doReturnA C kd cs (resultV l) h)

def stepA [iF : Forc] (C : Cfg) (s : AState) : Option AState :=
  match s with
  | ⟨⟨fn, nt, tm, todo, df, md, kd, ro⟩, cs, h⟩ => (match md with
    | .run => todoK todo C fn nt tm df kd ro cs h
    | md => unwindA C fn nt tm todo df md kd ro cs h)

/-- a run up to the end of the first frame -/
def isEnd (s : AState) : Bool :=
  match s.cs with
  | [] => (match s.fr.mode with
    | .returning => (match s.fr.defers with | [] => true | _ :: _ => false)
    | _ => false)
  | _ :: _ => false

def runA [iF : Forc] (C : Cfg) : Nat → AState → Option AState
  | 0, _ => none
  | n + 1, s => ci (isEnd s) (some s) (ob (stepA C s) fun s' => runA C n s')

def endV (C : Cfg) (s : AState) : Option Value :=
  ob (C.p.funcs.get s.fr.fn) fun fn => ob (resultsA C.p s.h s.fr.tmps (offT s.fr.todo) fn.results.toList) fun l => some (resultV l)

end Go.Am
end

