/- The abstract interpreter and its soundness, part 1 of 5: by an AI agent. -/
import Derived.Calls
import Derived.Orders
import Derived.LoopN
import Derived.Laws.Sem
import Derived.Laws.Cells
import Derived.Laws.World
import Derived.Laws.BytesString
import Derived.Laws.MakeOwn

/-! An abstract interpreter for the model's code: definitions alone. -/
namespace Go.Ai
open Go

/-! ### a trie over natural numbers -/
inductive T (α : Type) where
  | nil
  | node (v : Option α) (l r : T α)

noncomputable section

/-- (by the recursors themselves: the kernel goes through them faster) -/
def T.get {α : Type} (t : T α) : Nat → Option α :=
  T.rec (motive := fun _ => Nat → Option α) (fun _ => none)
    (fun v _ _ gl gr n => Nat.rec (motive := fun _ => Option α) v (fun k _ => Bool.rec (motive := fun _ => Option α) (gr (Nat.div k 2)) (gl (Nat.div k 2)) (Nat.beq (Nat.mod k 2) 0)) n) t

def T.one {α : Type} (v : Option α) (f : Nat) : Nat → T α :=
  Nat.rec (motive := fun _ => Nat → T α) (fun _ => .node v .nil .nil)
    (fun _ ih n => Nat.rec (motive := fun _ => T α) (.node v .nil .nil) (fun k _ => Bool.rec (motive := fun _ => T α) (.node none .nil (ih (Nat.div k 2))) (.node none (ih (Nat.div k 2)) .nil) (Nat.beq (Nat.mod k 2) 0)) n) f

def T.put {α : Type} (v : Option α) (t : T α) : Nat → T α :=
  T.rec (motive := fun _ => Nat → T α) (fun n => T.one v n n)
    (fun w l r sl sr n => Nat.rec (motive := fun _ => T α) (.node v l r) (fun k _ => Bool.rec (motive := fun _ => T α) (.node w l (sr (Nat.div k 2))) (.node w (sl (Nat.div k 2)) r) (Nat.beq (Nat.mod k 2) 0)) n) t

def T.set {α : Type} (t : T α) (n : Nat) (v : α) : T α := T.put (some v) t n
def T.del {α : Type} (t : T α) (n : Nat) : T α := T.put none t n

def T.ofListFrom {α : Type} : List α → Nat → T α → T α
  | [], _, t => t
  | x :: l, n, t => T.ofListFrom l (n + 1) (t.set n x)
def T.ofList {α : Type} (l : List α) : T α := T.ofListFrom l 0 .nil

/-- bytes one by one (by the recursors: the kernel goes through them faster) -/
def eqBytes (a : List UInt8) : List UInt8 → Bool :=
  List.rec (motive := fun _ => List UInt8 → Bool) (fun b => List.rec (motive := fun _ => Bool) true (fun _ _ _ => false) b)
    (fun x _ ih b => List.rec (motive := fun _ => Bool) false (fun y l _ => Bool.rec (motive := fun _ => Bool) false (ih l) (Nat.beq x.toNat y.toNat)) b) a
def eqStr (a b : ByteArray) : Bool := eqBytes a.data.toList b.data.toList

/-! ### objects, states -/
inductive Ex where
  | normal
  | exit (id : Nat)
  | ret
  | goto (l : Nat)
  deriving DecidableEq

inductive AObj where
  /-- a row of cells: element type, the cells that are known, is its capacity open, may it be written -/
  | row (elem : TypeId) (cs : List Value) (opn : Bool) (wr : Bool)
  /-- the entries in whatever order; is its clock told by the place? -/
  | map (es : List MapEntry) (lk : Bool) (wr : Bool)
  | iterS (s : ByteArray) (pos : Nat)
  /-- fresh, over a map -/
  | iterM (m : Option Nat) (lk : Bool)
  /-- a range over a function: its record -/
  | loopO (ls : LoopState) (pend : Option Ex) (tm : T Value) (nt : Nat) (ps : List Tmp) (assign body : Code)

structure St where
  hp : T AObj
  ct : Nat

structure Cx where
  P : Program
  ty : T TypeInfo
  fn : T Func
  ng : Nat

def Cx.of (P : Program) : Cx := ⟨P, T.ofList P.types.toList, T.ofList P.funcs.toList, P.globals.size⟩

def openCap : Nat := 1267650600228229401496703205376
def isOpen (c : Nat) : Bool := Nat.ble 18446744073709551616 c

def Cx.desc (cx : Cx) (t : TypeId) : Option TypeDesc :=
  match cx.ty.get t with
  | none => none
  | some i => match i.desc with
    | .named _ u => match cx.ty.get u with
      | some j => some j.desc
      | none => none
    | d => some d
def Cx.size (cx : Cx) (t : TypeId) : Option Nat := match cx.ty.get t with
  | some i => some i.size
  | none => none
def Cx.zero (cx : Cx) (t : TypeId) : Option Value := match cx.ty.get t with
  | some i => i.zero
  | none => none
def Cx.isAgg (cx : Cx) (t : TypeId) : Option Bool := match cx.desc t with
  | some (.struct _) | some (.array _ _) => some true
  | some _ => some false
  | none => none

/-! ### values without ids -/
mutual
def flat : Value → Bool
  | .pointer a => match a with | none => true | some _ => false
  | .slice a _ _ => match a with | none => true | some _ => false
  | .map r => match r with | none => true | some _ => false
  | .chan r => match r with | none => true | some _ => false
  | .func fn a b => (match fn with | .yield _ => false | _ => true) && flatA a && flatA b
  | .iface _ v => flat v
  | .agg cs => flatA cs
  | .tuple cs => flatA cs
  | _ => true
def flatA : Array Value → Bool
  | ⟨l⟩ => flatL l
def flatL : List Value → Bool
  | [] => true
  | v :: l => flat v && flatL l
end

/-! ### the quiet part of the model's own code -/
def quiet {α : Type} (P : Program) : Sem α → Option α
  | .pure a => some a
  | .program k => quiet P (k P)
  | .mark _ k => quiet P k
  | _ => none

def quietFlat (P : Program) (s : Sem Value) : Option Value :=
  match quiet P s with
  | some v => match flat v with | true => some v | false => none
  | none => none

/-! ### operands -/
def ev (cx : Cx) (tm : T Value) : Operand → Option Value
  | .tmp t => tm.get t
  | .const v => match flat v with | true => some v | false => none
  | .global g => match Nat.blt g cx.ng with | true => some (.pointer (some ⟨g, 0, none⟩)) | false => none
  | .func f => some (.func (.func f) #[] #[])

def evs (cx : Cx) (tm : T Value) : List Operand → Option (List Value)
  | [] => some []
  | x :: l => match ev cx tm x with
    | some v => match evs cx tm l with
      | some vs => some (v :: vs)
      | none => none
    | none => none

/-! ### cells -/
def takeCells : Nat → List Value → Option (List Value)
  | 0, _ => some []
  | _ + 1, [] => none
  | n + 1, v :: l => match takeCells n l with
    | some r => some (v :: r)
    | none => none
def dropCells : Nat → List Value → Option (List Value)
  | 0, l => some l
  | _ + 1, [] => none
  | n + 1, _ :: l => dropCells n l
/-- new cells in the place of the first ones -/
def over : List Value → List Value → Option (List Value)
  | [], l => some l
  | _ :: _, [] => none
  | v :: vs, _ :: l => match over vs l with
    | some r => some (v :: r)
    | none => none
/-- new cells from a place on; 'none' if they don't fit -/
def putCells : Nat → List Value → List Value → Option (List Value)
  | 0, vs, l => over vs l
  | _ + 1, _, [] => none
  | n + 1, vs, v :: l => match putCells n vs l with
    | some r => some (v :: r)
    | none => none
def isCell : Value → Bool
  | .agg _ | .tuple _ => false
  | _ => true
def allCells : List Value → Bool
  | [] => true
  | v :: l => isCell v && allCells l

/-- the first ones, all of them known -/
def takeC : Nat → List Value → Option (List Value)
  | 0, _ => some []
  | _ + 1, [] => none
  | n + 1, v :: l => match isCell v with
    | true => match takeC n l with
      | some r => some (v :: r)
      | none => none
    | false => none

/-- (a cell that holds what is no cell's value is not known) -/
def readCells (st : St) (a : Addr) (n : Nat) : Option (List Value) :=
  match n with
  | 0 => some []
  | _ + 1 => match a.spot with
    | some _ => none
    | none => match st.hp.get a.block with
      | some (.row _ cs _ _) => match dropCells a.off cs with
        | some l => takeC n l
        | none => none
      | _ => none

def writeCells (st : St) (a : Addr) (vs : List Value) : Option St :=
  match st.hp.get a.block with
  | some (.row e cs o true) => match a.spot.isNone && allCells vs with
    | true => match putCells a.off vs cs with
      | some l => some { st with hp := st.hp.set a.block (.row e l o true) }
      | none => none
    | false => none
  | _ => none

def newObjA (st : St) (o : AObj) : Nat × St := (st.ct, ⟨st.hp.set st.ct o, st.ct + 1⟩)

/-! ### pure operations -/
def binInt (op : BinOp) (k : IntKind) (x y : Int) : Option Value :=
  match op with
  | .add => some (.int k (k.wrap (x + y)))
  | .sub => some (.int k (k.wrap (x - y)))
  | .mul => some (.int k (k.wrap (x * y)))
  | .eql => some (.bool (x == y))
  | .neq => some (.bool (x != y))
  | .lss => some (.bool (decide (x < y)))
  | .leq => some (.bool (decide (x ≤ y)))
  | .gtr => some (.bool (decide (x > y)))
  | .geq => some (.bool (decide (x ≥ y)))
  | _ => none

def binOpA (cx : Cx) (op : BinOp) (t : TypeId) (a b : Value) (x y : Operand) : Option Value :=
  match a, b with
  | .int k n, .int k' m => match op with
    | .add | .sub | .mul | .eql | .neq | .lss | .leq | .gtr | .geq => match decide (k = k') with
      | true => binInt op k n m
      | false => none
    | _ => quietFlat cx.P (binOp op t a b)
  | _, _ => match flat a && flat b with
    | true => quietFlat cx.P (do eqGuard op t x y a b; binOp op t a b)
    | false => none

def unlike (op : BinOp) : Option Value :=
  match op with
  | .eql => some (.bool false)
  | .neq => some (.bool true)
  | _ => none

def eqNilA (cx : Cx) (op : BinOp) (t : TypeId) (a b : Value) : Option Value :=
  match cx.desc t with
  | some (.pointer e) => match a, b with
    | .pointer none, .pointer (some _) | .pointer (some _), .pointer none => unlike op
    | .pointer (some a), .pointer (some b) => match cx.size e, Nat.beq a.block b.block with
      | some (_ + 1), true => match op with
        | .eql => some (.bool (Nat.beq a.off b.off))
        | .neq => some (.bool (!Nat.beq a.off b.off))
        | _ => none
      | _, _ => none
    | _, _ => none
  | some (.slice _) => match a, b with
    | .slice none _ _, .slice (some _) _ _ | .slice (some _) _ _, .slice none _ _ => unlike op
    | _, _ => none
  | some (.map _ _) => match a, b with
    | .map none, .map (some _) | .map (some _), .map none => unlike op
    | _, _ => none
  | some (.func _ _ _) => match a, b with
    | .nilFunc, .func _ _ _ | .func _ _ _, .nilFunc => unlike op
    | _, _ => none
  | some (.interface _) => match a, b with
    | .nilIface, .iface _ _ | .iface _ _, .nilIface => unlike op
    | _, _ => none
  | _ => none

def partA (cx : Cx) (t : TypeId) (cs : List Value) (off : Nat) : Option Value :=
  match cx.isAgg t, cx.size t with
  | some true, some n => match dropCells off cs with
    | some l => match takeCells n l with
      | some r => some (.agg ⟨r⟩)
      | none => none
    | none => none
  | some false, some _ => cs[off]?
  | _, _ => none

def fillA (place : Nat → Option (Nat × Nat)) (cells : List Value) : List (Nat × Value) → Option (List Value)
  | [] => some cells
  | (i, v) :: rest => match place i with
    | none => none
    | some (off, size) => match Nat.beq v.cells.size size with
      | false => none
      | true => match putCells off v.cells.toList cells with
        | some l => fillA place l rest
        | none => none

def evParts (cx : Cx) (tm : T Value) : List (Nat × Operand) → Option (List (Nat × Value))
  | [] => some []
  | (i, x) :: l => match ev cx tm x with
    | some v => match evParts cx tm l with
      | some r => some ((i, v) :: r)
      | none => none
    | none => none

def sizes (cx : Cx) : List Field → Option (List (Nat × Nat))
  | [] => some []
  | f :: l => match cx.size f.type with
    | some n => match sizes cx l with
      | some r => some ((f.offset, n) :: r)
      | none => none
    | none => none

def buildA (cx : Cx) (t : TypeId) (parts : List (Nat × Value)) : Option Value :=
  match cx.zero t, cx.desc t with
  | some z, some d => match flat z with
    | false => none
    | true => match d with
      | .struct fields => match sizes cx fields.toList with
        | some ps => match fillA (ps[·]?) z.cells.toList parts with
          | some l => some (.agg ⟨l⟩)
          | none => none
        | none => none
      | .array _ e => match cx.size e with
        | some n => match fillA (fun i => some (i * n, n)) z.cells.toList parts with
          | some l => some (.agg ⟨l⟩)
          | none => none
        | none => none
      | _ => none
  | _, _ => none

def bound (v : Value) (y : Nat) : Option Nat :=
  match v with
  | .int _ i => match decide (0 ≤ i ∧ i ≤ (y : Int)) with
    | true => some i.toNat
    | false => none
  | _ => none
def boundOr (d : Nat) (y : Nat) : Option Value → Option Nat
  | none => some d
  | some v => bound v y

def sliceP (cx : Cx) (t : TypeId) (x : Value) (lo hi : Option Value) : Option Value :=
  match x with
  | .string s => match cx.desc t with
    | some .string => match boundOr s.size s.size hi with
      | some h => match boundOr 0 h lo with
        | some l => some (.string (s.extract l h))
        | none => none
      | none => none
    | _ => none
  | .pointer (some a) => match cx.desc t with
    | some (.array m e) => match cx.size e with
      | some n => match a.spot.isNone && Nat.ble m 70368744177664 with
        | false => none
        | true => match boundOr m m hi with
          | some h => match boundOr 0 h lo with
            | some l => some (.slice (some (match Nat.beq m l with | true => a | false => a.add (l * n))) (h - l) (m - l))
            | none => none
          | none => none
      | none => none
    | _ => none
  | _ => none

/-- is it sure that the capacity of an open slice is not below its length? -/
def openOk (cx : Cx) (st : St) (a : Addr) (len cap n : Nat) : Bool :=
  match st.hp.get a.block with
  | some (.row e cs true _) => match cx.size e with
    | some m => a.spot.isNone && Nat.beq m n && Nat.ble 1 n && Nat.beq a.off ((openCap - cap) * n) && Nat.ble (a.off + len * n) cs.length && Nat.ble cap openCap
    | none => false
  | _ => false

def sliceR (cx : Cx) (st : St) (t : TypeId) (x : Value) (lo hi : Option Value) : Option Value :=
  match x with
  | .slice a len cap => match cx.desc t with
    | some (.slice e) => match cx.size e with
      | some n => match a with
        | none => match boundOr len cap hi with
          | some h => match boundOr 0 h lo with
            | some l => some (.slice none (h - l) (cap - l))
            | none => none
          | none => none
        | some a => match isOpen cap with
          | false => match a.spot with
            | some _ => none
            | none => match boundOr len cap hi with
            | some h => match boundOr 0 h lo with
              | some l => some (.slice (some (match Nat.beq cap l with | true => a | false => a.add (l * n))) (h - l) (cap - l))
              | none => none
            | none => none
          | true => match openOk cx st a len cap n with
            | false => none
            | true => match boundOr len len hi with
              | some h => match boundOr 0 h lo with
                | some l => match Nat.beq l 0 || Nat.blt l len with
                  | true => some (.slice (some (a.add (l * n))) (h - l) (cap - l))
                  | false => some (.slice (some ⟨a.block, a.off, some (l * n)⟩) 0 (cap - l))
                | none => none
              | none => none
      | none => none
    | _ => none
  | _ => none

/-- with a bound on the capacity -/
def slice3 (cx : Cx) (st : St) (t : TypeId) (x : Value) (lo : Option Value) (hi mx : Value) : Option Value :=
  match x with
  | .slice (some a) len cap => match cx.desc t with
    | some (.slice e) => match cx.size e with
      | some n => match a.spot.isNone && (match isOpen cap with | false => true | true => openOk cx st a len cap n) with
        | true => match bound mx (match isOpen cap with | false => cap | true => len) with
          | some m => match bound hi m with
            | some h => match boundOr 0 h lo with
              | some l => match isOpen m with
                | false => some (.slice (some (match Nat.beq m l with | true => a | false => a.add (l * n))) (h - l) (m - l))
                | true => none
              | none => none
            | none => none
          | none => none
        | false => none
      | none => none
    | _ => none
  | _ => none

def indexAddrA (cx : Cx) (t : TypeId) (x : Value) (i : Value) : Option Value :=
  match i with
  | .int _ k => match x, cx.desc t with
    | .pointer (some a), some (.array m e) => match cx.size e with
      | some n => match decide (0 ≤ k ∧ k < (m : Int)) with
        | true => some (.pointer (some (a.add (k.toNat * n))))
        | false => none
      | none => none
    | .slice (some a) len _, some (.slice e) => match cx.size e with
      | some n => match a.spot.isNone && decide (0 ≤ k ∧ k < (len : Int)) with
        | true => some (.pointer (some (a.add (k.toNat * n))))
        | false => none
      | none => none
    | _, _ => none
  | _ => none

def indexA (cx : Cx) (t : TypeId) (x : Value) (i : Value) : Option Value :=
  match i with
  | .int _ k => match x, cx.desc t with
    | .string s, some .string => match decide (0 ≤ k) with
      | true => match s.data.toList[k.toNat]? with
        | some b => some (.int .u8 b.toNat)
        | none => none
      | false => none
    | .agg cs, some (.array m e) => match cx.size e with
      | some n => match decide (0 ≤ k ∧ k < (m : Int)) with
        | true => partA cx e cs.toList (k.toNat * n)
        | false => none
      | none => none
    | _, _ => none
  | _ => none

def failA (cx : Cx) (asserted : TypeId) (ok : Bool) : Option Value :=
  match ok, cx.zero asserted with
  | true, some z => match flat z with
    | true => some (.tuple #[z, .bool false])
    | false => none
  | _, _ => none

def typeAssertA (cx : Cx) (x : Value) (asserted : TypeId) (ok : Bool) : Option Value :=
  match cx.desc asserted with
  | some (.interface _) => none
  | some _ => match x with
    | .iface t v => match Nat.beq t asserted with
      | true => some (if ok then .tuple #[v, .bool true] else v)
      | false => failA cx asserted ok
    | .nilIface => failA cx asserted ok
    | _ => none
  | none => none

def opt (cx : Cx) (tm : T Value) : Option Operand → Option (Option Value)
  | none => some none
  | some x => match ev cx tm x with
    | some v => some (some v)
    | none => none

def lenA (cx : Cx) (v : Value) (ts : List TypeId) : Option Value :=
  match ts with
  | [t] => match cx.desc t, v with
    | some .string, .string s => some (goInt s.size)
    | some (.slice _), .slice _ n _ => some (goInt n)
    | some (.array n _), _ => some (goInt n)
    | some (.pointer e), _ => match cx.desc e with
      | some (.array n _) => some (goInt n)
      | _ => none
    | some (.map _ _), .map none => some (goInt 0)
    | _, _ => none
  | _ => none

/-- len, cap, min, max of what needs no memory -/
def pureCall (cx : Cx) (tm : T Value) (c : Call) : Option Value :=
  match c.callee with
  | .builtin b => match evs cx tm c.args.toList with
    | some as => match b with
      | .len => match as with
        | [v] => lenA cx v c.argTypes.toList
        | _ => none
      | .cap => match as, c.argTypes.toList with
        | [.slice _ _ n], [t] => match cx.desc t, isOpen n with
          | some (.slice _), false => some (goInt n)
          | _, _ => none
        | _, _ => none
      | .min => match as with
        | [.int k x, .int _ y] => some (.int k (if y < x then y else x))
        | _ => none
      | .max => match as with
        | [.int k x, .int _ y] => some (.int k (if y > x then y else x))
        | _ => none
      | _ => none
    | none => none
  | _ => none

/-- operations that neither read nor change memory -/
def pureOp (cx : Cx) (tm : T Value) : Op → Option Value
  | .move x | .assign x => ev cx tm x
  | .pick c a b => match ev cx tm c with
    | some (.bool true) => ev cx tm a
    | some (.bool false) => ev cx tm b
    | _ => none
  | .nilCheck x => match ev cx tm x with
    | some (.pointer (some a)) => some (.pointer (some a))
    | some (.func (.func f) a b) => some (.func (.func f) a b)
    | some (.iface t v) => some (.iface t v)
    | _ => none
  | .binOp op t x y _ => match ev cx tm x with
    | some a => match ev cx tm y with
      | some b => match binOpA cx op t a b x y with
        | some v => some v
        | none => eqNilA cx op t a b
      | none => none
    | none => none
  | .unOp op _ x => match ev cx tm x with
    | some (.bool b) => match op with
      | .not => some (.bool (!b))
      | _ => none
    | some v => match flat v with
      | true => quietFlat cx.P (Op.unary op v)
      | false => none
    | none => none
  | .convert s d x => match ev cx tm x with
    | some (.int k n) => match cx.desc d, cx.desc s with
      | some (.int k'), some (.int _) => some (.int k' (k'.wrap n))
      | _, _ => quietFlat cx.P (convert s d (.int k n))
    | some (.string b) => match cx.desc d, cx.desc s with
      | some .string, some .string => some (.string b)
      | _, _ => none
    | some v => match flat v with
      | true => quietFlat cx.P (convert s d v)
      | false => none
    | none => none
  | .makeInterface t x => match cx.desc t with
    | some (.interface _) => none
    | some _ => match ev cx tm x with
      | some v => some (.iface t v)
      | none => none
    | none => none
  | .makeFunc fn first captured => match evs cx tm first.toList, evs cx tm captured.toList with
    | some a, some b => match fn with
      | .yield _ => none
      | _ => some (.func fn ⟨a⟩ ⟨b⟩)
    | _, _ => none
  | .field t x f => match ev cx tm x with
    | some (.agg cs) => match cx.desc t with
      | some (.struct fields) => match fields[f]? with
        | some fd => partA cx fd.type cs.toList fd.offset
        | none => none
      | _ => none
    | _ => none
  | .index t x i => match ev cx tm x with
    | some a => match ev cx tm i with
      | some b => indexA cx t a b
      | none => none
    | none => none
  | .extract x i => match ev cx tm x with
    | some (.tuple vs) => vs.toList[i]?
    | _ => none
  | .fieldAddr t x f => match ev cx tm x with
    | some (.pointer (some a)) => match cx.desc t with
      | some (.struct fields) => match fields[f]? with
        | some fd => match cx.size fd.type with
          | some (_ + 1) => some (.pointer (some (a.add fd.offset)))
          | _ => none
        | none => none
      | _ => none
    | _ => none
  | .indexAddr t x i => match ev cx tm x with
    | some a => match ev cx tm i with
      | some b => indexAddrA cx t a b
      | none => none
    | none => none
  | .slice t x lo hi mx => match mx with
    | some _ => none
    | none => match ev cx tm x with
      | some a => match opt cx tm lo with
        | some l => match opt cx tm hi with
          | some h => sliceP cx t a l h
          | none => none
        | none => none
      | none => none
  | .typeAssert x _ t ok => match ev cx tm x with
    | some v => typeAssertA cx v t ok
    | none => none
  | .build t parts => match evParts cx tm parts.toList with
    | some ps => buildA cx t ps
    | none => none
  | .call c => pureCall cx tm c
  | _ => none

/-! ### operations that make one object -/
def rep (n : Nat) (z : List Value) : List Value :=
  match n with
  | 0 => []
  | n + 1 => z ++ rep n z

/-- a flat zero value of so many cells -/
def zeroN (cx : Cx) (e : TypeId) (n : Nat) : Option (List Value) :=
  match cx.zero e with
  | some z => match flat z && Nat.beq z.cells.size n with
    | true => some z.cells.toList
    | false => none
  | none => none

def allocOp (cx : Cx) (tm : T Value) : Op → Option (AObj × (Nat → Value))
  | .alloc e => match cx.zero e with
    | some z => match flat z with
      | true => some (.row e z.cells.toList false true, fun id => .pointer (some ⟨id, 0, none⟩))
      | false => none
    | none => none
  | .box e x => match ev cx tm x with
    | some v => some (.row e v.cells.toList false true, fun id => .pointer (some ⟨id, 0, none⟩))
    | none => none
  | .buildSlice t len parts => match evParts cx tm parts.toList, cx.desc t with
    | some ps, some (.slice e) => match cx.size e with
      | some n => match zeroN cx e n with
        | some z => match Nat.ble (len * n) 16777216 && Nat.ble len 16777216, fillA (fun i => some (i * n, n)) (rep len z) ps with
          | true, some l => some (.row e l false true, fun id => .slice (some ⟨id, 0, none⟩) len len)
          | _, _ => none
        | none => none
      | none => none
    | _, _ => none
  | .makeSlice t l c => match ev cx tm l, ev cx tm c, cx.desc t with
    | some (.int _ l), some (.int _ c), some (.slice e) => match cx.ty.get e with
      | some i => match decide (0 ≤ l ∧ l ≤ c ∧ i.bytes * c ≤ 70368744177664 ∧ c ≤ 70368744177664), zeroN cx e i.size with
        | true, some z => some (.row e (rep c.toNat z) false true, fun id => .slice (some ⟨id, 0, none⟩) l.toNat c.toNat)
        | _, _ => none
      | none => none
    | _, _, _ => none
  | .makeMap t r => match r with
    | none => some (.map [] false true, fun id => .map (some id))
    | some h => match ev cx tm h, cx.desc t with
      | some (.int _ _), some (.map _ _) => some (.map [] false true, fun id => .map (some id))
      | _, _ => none
  | .convert s d x => match ev cx tm x, cx.desc d, cx.desc s with
    | some (.string b), some (.slice e), some _ => match cx.desc e, cx.size e with
      | some (.int .u8), some 1 => match Nat.ble b.size 70368744177664 with
        | true => some (.row e (b.data.toList.map fun b => .int .u8 b.toNat) true true, fun id => .slice (some ⟨id, 0, none⟩) b.size openCap)
        | false => none
      | _, _ => none
    | _, _, _ => none
  | .range t x => match ev cx tm x, cx.desc t with
    | some (.string s), some .string => some (.iterS s 0, fun id => .pointer (some ⟨id, 0, none⟩))
    | _, _ => none
  | _ => none

/-! ### maps -/
def findA (cx : Cx) (kt : TypeId) (k : Value) : List MapEntry → Nat → Option (Option (Nat × MapEntry))
  | [], _ => some none
  | e :: es, i => match flat e.key with
    | true => match quiet cx.P (Op.equal kt k e.key) with
      | some true => some (some (i, e))
      | some false => findA cx kt k es (i + 1)
      | none => none
    | false => none
def findM (cx : Cx) (kt : TypeId) (k : Value) (es : List MapEntry) : Option (Option (Nat × MapEntry)) :=
  match cx.desc kt with
  | some _ => findA cx kt k es 0
  | none => none

/-- are two keys the same? (texts by their bytes) -/
def eqQ (cx : Cx) (kt : TypeId) (k y : Value) : Option Bool :=
  match k, y with
  | .string a, .string b => match cx.desc kt with
    | some .string => some (eqStr a b)
    | _ => quiet cx.P (Op.equal kt k y)
  | _, _ => quiet cx.P (Op.equal kt k y)
/-- no entry of the key -/
def noneA (cx : Cx) (kt : TypeId) (k : Value) : List MapEntry → Bool
  | [] => true
  | e :: es => match flat e.key with
    | true => match eqQ cx kt k e.key with
      | some false => noneA cx kt k es
      | _ => false
    | false => false
/-- the one entry of the key, in whatever order they lie -/
def findU (cx : Cx) (kt : TypeId) (k : Value) : List MapEntry → Nat → Option (Option (Nat × MapEntry))
  | [], _ => some none
  | e :: es, i => match flat e.key with
    | true => match eqQ cx kt k e.key with
      | some true => match noneA cx kt k es with
        | true => some (some (i, e))
        | false => none
      | some false => findU cx kt k es (i + 1)
      | none => none
    | false => none
def findMU (cx : Cx) (kt : TypeId) (k : Value) (es : List MapEntry) : Option (Option (Nat × MapEntry)) :=
  match cx.desc kt with
  | some _ => findU cx kt k es 0
  | none => none

/-! ### operations that read memory -/
def bytesOfCells : List Value → Option (List UInt8)
  | [] => some []
  | .int .u8 n :: l => match bytesOfCells l with
    | some r => some (UInt8.ofNat n.toNat :: r)
    | none => none
  | _ :: _ => none

def mapOf (st : St) : Value → Option (List MapEntry)
  | .map none => some []
  | .map (some r) => match st.hp.get r with
    | some (.map es _ _) => some es
    | _ => none
  | _ => none

def readOp (cx : Cx) (tm : T Value) (st : St) : Op → Option Value
  | .load t x => match ev cx tm x with
    | some (.pointer (some a)) => match cx.isAgg t, cx.size t with
      | some true, some n => match readCells st a n with
        | some l => some (.agg ⟨l⟩)
        | none => none
      | some false, some _ => match readCells st a 1 with
        | some [v] => some v
        | _ => none
      | _, _ => none
    | _ => none
  | .convert s d x => match cx.desc s, cx.desc d with
    | some (.slice e), some .string => match cx.desc e with
      | some (.int .u8) => match ev cx tm x with
        | some (.slice none _ _) => some (.string ⟨#[]⟩)
        | some (.slice (some a) n _) => match readCells st a n with
          | some l => match bytesOfCells l with
            | some bs => some (.string ⟨⟨bs⟩⟩)
            | none => none
          | none => none
        | _ => none
      | _ => none
    | some (.pointer t), some .unsafePointer => match ev cx tm x with
      | some (.pointer oa) => match oa with
        | none => some (.pointer none)
        | some a => match cx.size t, st.hp.get a.block with
          | some (_ + 1), some (.row _ cs _ _) => match Nat.blt a.off cs.length && a.spot.isNone with
            | true => some (.pointer (some a))
            | false => none
          | _, _ => none
      | _ => none
    | some .unsafePointer, some (.pointer u) => match ev cx tm x with
      | some (.pointer oa) => match oa with
        | none => some (.pointer none)
        | some a => match cx.size u, st.hp.get a.block with
          | some (k + 1), some (.row e cs false true) => match Nat.beq e u && Nat.beq (Nat.mod a.off (k + 1)) 0 && Nat.ble (a.off + (k + 1)) cs.length && a.spot.isNone with
            | true => some (.pointer (some a))
            | false => none
          | _, _ => none
      | _ => none
    | _, _ => none
  | .slice t x lo hi mx => match mx with
    | some mo => match ev cx tm x with
      | some a => match opt cx tm lo with
        | some l => match opt cx tm hi with
          | some (some h) => match ev cx tm mo with
            | some m => slice3 cx st t a l h m
            | none => none
          | _ => none
        | none => none
      | none => none
    | none => match ev cx tm x with
      | some a => match opt cx tm lo with
        | some l => match opt cx tm hi with
          | some h => sliceR cx st t a l h
          | none => none
        | none => none
      | none => none
  | .lookup t m k ok => match cx.desc t, ev cx tm m, ev cx tm k with
    | some (.map kt et), some mv, some kv => match flat kv, mapOf st mv, cx.zero et with
      | true, some es, some z => match quiet cx.P (Instr.checkKey es.isEmpty 10000 kt kv), findMU cx kt kv es with
        | some _, some (some (_, e)) => some (if ok then .tuple #[e.val, .bool true] else e.val)
        | some _, some none => match flat z with
          | true => some (if ok then .tuple #[z, .bool false] else z)
          | false => none
        | _, _ => none
      | _, _, _ => none
    | _, _, _ => none
  | .call c => match c.callee with
    | .builtin b => match b with
      | .len => match c.args.toList, c.argTypes.toList with
        | [x], [t] => match cx.desc t, ev cx tm x with
          | some (.map _ _), some v => match mapOf st v with
            | some es => some (goInt es.length)
            | none => none
          | _, _ => none
        | _, _ => none
      | _ => none
    | _ => none
  | _ => none

/-! ### operations that change memory -/
/-- what is to be appended: how many elements, their cells -/
def contentA (st : St) (size : Nat) (xd : TypeDesc) (x : Value) : Option (Nat × List Value) :=
  match xd with
  | .slice _ => match x with
    | .slice oa n _ => match oa with
      | none => match Nat.beq n 0 with
        | true => some (0, [])
        | false => none
      | some a => match readCells st a (n * size) with
        | some l => some (n, l)
        | none => none
    | _ => none
  | .string => match x with
    | .string b => match Nat.beq size 1 with
      | true => some (b.size, b.data.toList.map fun b => .int .u8 b.toNat)
      | false => none
    | _ => none
  | _ => none

/-- what append is to put behind: zeros too (append of a make) -/
def contentZ (st : St) (zl : List Value) (size : Nat) (xd : TypeDesc) (x : Value) : Option (Nat × List Value) :=
  match xd with
  | .int _ => match x with
    | .int _ l => match decide (0 ≤ l ∧ l ≤ 70368744177664) with
      | true => some (l.toNat, rep l.toNat zl)
      | false => none
    | _ => none
  | _ => contentA st size xd x

/-- a row with some more -/
def growA (e : TypeId) (old l : List Value) (need : Nat) (hp : T AObj) (ct : Nat) : Option (Value × St) :=
  match allCells l with
  | true => some (.slice (some ⟨ct, 0, none⟩) need openCap, ⟨hp.set ct (.row e (old ++ l) true true), ct + 1⟩)
  | false => none

def appendTo (cx : Cx) (e : TypeId) (i : TypeInfo) (s : Value) (n : Nat) (l : List Value) (st : St) : Option (Value × St) :=
  match s with
  | .slice base len cap => match base with
    | none => match Nat.beq len 0 && Nat.beq cap 0 with
      | false => none
      | true => match n with
        | 0 => some (.slice none 0 0, st)
        | n' + 1 => growA e [] l (n' + 1) st.hp st.ct
    | some a => match isOpen cap with
      | false => match a.spot with
        | some _ => none
        | none => match Nat.ble (len + n) cap with
          | true => match writeCells st (a.add (len * i.size)) l with
            | some st' => some (.slice (some a) (len + n) cap, st')
            | none => none
          | false => match readCells st a (len * i.size) with
            | some old => growA e old l (len + n) st.hp st.ct
            | none => none
      | true => match n with
        | 0 => match Nat.beq len 0 || openOk cx st a len cap i.size with
          | true => some (.slice (some a) len cap, st)
          | false => none
        | _ + 1 => match openOk cx st a len cap i.size with
          | false => none
          | true => match st.hp.get a.block with
            | some (.row e2 cs _ true) => match Nat.ble (a.off + (len + n) * i.size) cs.length with
              | true => match writeCells st (a.add (len * i.size)) l with
                | some st' => some (.slice (some a) (len + n) cap, st')
                | none => none
              | false => match Nat.beq e2 e with
                | true => match readCells st a (len * i.size) with
                  | some old => growA e old l (len + n) (st.hp.del a.block) st.ct
                  | none => none
                | false => none
            | _ => none
  | _ => none

def appendA (cx : Cx) (argTypes : List TypeId) (s x : Value) (st : St) : Option (Value × St) :=
  match argTypes with
  | [sT, xT] => match cx.desc sT, cx.desc xT with
    | some (.slice e), some xd => match cx.ty.get e with
      | some i => match zeroN cx e i.size with
        | some zl => match contentZ st zl i.size xd x with
          | some (n, l) => match s with
            | .slice _ len _ => match Nat.ble ((len + n) * i.bytes) 70368744177664 && Nat.ble (len + n) 70368744177664 && Nat.ble 1 i.size && Nat.ble 1 i.bytes with
              | true => appendTo cx e i s n l st
              | false => none
            | _ => none
          | none => none
        | none => none
      | none => none
    | _, _ => none
  | _ => none

def updateA (cx : Cx) (t : TypeId) (m k v : Value) (st : St) : Option St :=
  match cx.desc t, m, flat k with
  | some (.map kt _), .map (some r), true => match st.hp.get r with
    | some (.map es false true) => match quiet cx.P (Instr.checkKey false 10000 kt k), findMU cx kt k es with
      | some _, some (some (i, e)) => match Instr.sameBits 10000 e.key k with
        | true => some { st with hp := st.hp.set r (.map (es.set i { key := k, val := v, born := 0 }) false true) }
        | false => none
      | some _, some none => some { st with hp := st.hp.set r (.map (es ++ [{ key := k, val := v, born := 0 }]) false true) }
      | _, _ => none
    | _ => none
  | _, _, _ => none

def copyA (cx : Cx) (dT : TypeId) (d x : Value) (st : St) : Option (Value × St) :=
  match d, cx.desc dT with
  | .slice base dl _, some (.slice e) => match cx.size e with
    | some n => match x with
      | .slice none sl _ => match base with
        | none => match Nat.beq sl 0 with
          | true => some (goInt 0, st)
          | false => none
        | some _ => match Nat.beq sl 0 with
          | true => some (goInt 0, st)
          | false => none
      | .slice (some b) sl _ => match base with
        | none => match Nat.beq dl 0 with
          | true => some (goInt 0, st)
          | false => none
        | some a => match readCells st b (Nat.min sl dl * n) with
          | some l => match writeCells st a l with
            | some st' => some (goInt (Nat.min sl dl), st')
            | none => none
          | none => none
      | .string s => match base with
        | none => match Nat.beq dl 0 with
          | true => some (goInt 0, st)
          | false => none
        | some a => match writeCells st a ((s.data.toList.take (Nat.min s.size dl)).map fun b => .int .u8 b.toNat) with
          | some st' => some (goInt (Nat.min s.size dl), st')
          | none => none
      | _ => none
    | none => none
  | _, _ => none

def deleteA (cx : Cx) (t : TypeId) (m k : Value) (st : St) : Option (Value × St) :=
  match cx.desc t, m, flat k with
  | some (.map kt _), .map none, true => match quiet cx.P (Instr.checkKey true 10000 kt k) with
    | some _ => some (.tuple #[], st)
    | none => none
  | some (.map kt _), .map (some r), true => match st.hp.get r with
    | some (.map es false true) => match quiet cx.P (Instr.checkKey es.isEmpty 10000 kt k), findMU cx kt k es with
      | some _, some (some (i, _)) => some (.tuple #[], { st with hp := st.hp.set r (.map (es.eraseIdx i) false true) })
      | some _, some none => some (.tuple #[], st)
      | _, _ => none
    | _ => none
  | _, _, _ => none

def clearA (cx : Cx) (t : TypeId) (x : Value) (st : St) : Option (Value × St) :=
  match x with
  | .map none => some (.tuple #[], st)
  | .map (some r) => match st.hp.get r with
    | some (.map _ false true) => some (.tuple #[], { st with hp := st.hp.set r (.map [] false true) })
    | _ => none
  | .slice none _ _ => some (.tuple #[], st)
  | .slice (some a) n _ => match n with
    | 0 => some (.tuple #[], st)
    | k + 1 => match cx.desc t with
      | some (.slice e) => match cx.size e with
        | some z => match zeroN cx e z with
          | some zs => match writeCells st a (rep (k + 1) zs) with
            | some st' => some (.tuple #[], st')
            | none => none
          | none => none
        | none => none
      | _ => none
  | _ => none

def sliceDataA (cx : Cx) (t : TypeId) (x : Value) (st : St) : Option (Value × St) :=
  match x with
  | .slice none _ _ => some (.pointer none, st)
  | .slice (some a) n c => match a.spot with
    | some _ => none
    | none => match isOpen c with
      | false => match c with
        | 0 => none
        | _ + 1 => some (.pointer (some a), st)
      | true => match n with
        | 0 => none
        | _ + 1 => match cx.desc t with
          | some (.slice e) => match cx.size e with
            | some z => match openOk cx st a n c z with
              | true => some (.pointer (some a), st)
              | false => none
            | none => none
          | _ => none
  | _ => none

def unsafeStringA (cx : Cx) (t : TypeId) (p l : Value) (st : St) : Option (Value × St) :=
  match p, l with
  | .pointer oa, .int _ n => match decide (0 ≤ n ∧ n ≤ 70368744177664) with
    | false => none
    | true => match n.toNat with
      | 0 => some (.string ⟨#[]⟩, st)
      | k + 1 => match oa with
        | none => none
        | some a => match cx.desc t with
          | some (.pointer e) => match cx.size e, st.hp.get a.block with
            | some 1, some (.row e' cs o true) => match Nat.beq e' e, readCells st a (k + 1) with
              | true, some l => match bytesOfCells l with
                | some bs => some (.string ⟨⟨bs⟩⟩, { st with hp := st.hp.set a.block (.row e' cs o false) })
                | none => none
              | _, _ => none
            | _, _ => none
          | _ => none
  | _, _ => none

/-- append, copy, delete, clear, unsafe's -/
def heavyCall (cx : Cx) (tm : T Value) (st : St) (c : Call) : Option (Value × St) :=
  match c.callee with
  | .builtin b => match evs cx tm c.args.toList with
    | some as => match b with
      | .append => match as with
        | [s, x] => appendA cx c.argTypes.toList s x st
        | _ => none
      | .copy => match as, c.argTypes.toList with
        | [d, x], dT :: _ => copyA cx dT d x st
        | _, _ => none
      | .delete => match as, c.argTypes.toList with
        | [m, k], t :: _ => deleteA cx t m k st
        | _, _ => none
      | .clear => match as, c.argTypes.toList with
        | [x], t :: _ => match cx.desc t with
          | some _ => clearA cx t x st
          | none => none
        | _, _ => none
      | .unsafeSliceData => match as, c.argTypes.toList with
        | [x], t :: _ => sliceDataA cx t x st
        | _, _ => none
      | .unsafeString => match as, c.argTypes.toList with
        | [p, l], t :: _ => unsafeStringA cx t p l st
        | _, _ => none
      | _ => none
    | none => none
  | _ => none

def heavyOp (cx : Cx) (tm : T Value) (st : St) : Op → Option (Value × St)
  | .store t x y => match ev cx tm x, ev cx tm y with
    | some (.pointer (some a)), some v => match cx.size t with
      | some n => match Nat.beq v.cells.size n with
        | true => match writeCells st a v.cells.toList with
          | some st' => some (undef, st')
          | none => none
        | false => none
      | none => none
    | _, _ => none
  | .mapUpdate t m k x | .insert t m k x => match ev cx tm m, ev cx tm k, ev cx tm x with
    | some mv, some kv, some v => match updateA cx t mv kv v st with
      | some st' => some (undef, st')
      | none => none
    | _, _, _ => none
  | .range t x => match ev cx tm x, cx.desc t with
    | some (.map none), some (.map _ _) => some (.pointer (some ⟨st.ct, 0, none⟩), ⟨st.hp.set st.ct (.iterM none false), st.ct + 1⟩)
    | some (.map (some r)), some (.map _ _) => match st.hp.get r with
      | some (.map _ lk _) => some (.pointer (some ⟨st.ct, 0, none⟩), ⟨st.hp.set st.ct (.iterM (some r) lk), st.ct + 1⟩)
      | _ => none
    | _, _ => none
  | .next it isString => match isString with
    | false => none
    | true => match ev cx tm it with
      | some (.pointer (some a)) => match a.off, st.hp.get a.block with
        | 0, some (.iterS s pos) => match Nat.blt pos s.size with
          | true => some (.tuple #[.bool true, goInt pos, .int .i32 (Utf8.decode s pos).1], { st with hp := st.hp.set a.block (.iterS s (pos + (Utf8.decode s pos).2)) })
          | false => some (.tuple #[.bool false], st)
        | _, _ => none
      | _ => none
  | .call c => heavyCall cx tm st c
  | _ => none

/-! ### running code -/
/-- no range over a function -/
def noRF : Code → Bool
  | .seq a b => noRF a && noRF b
  | .cond _ a b => noRF a && noRF b
  | .block _ a => noRF a
  | .loop a => noRF a
  | .scope a => noRF a
  | .rangeFunc .. => false
  | _ => true

/-- is it a function with a body? -/
def entersA (cx : Cx) (k : Nat) : Bool :=
  match cx.fn.get k with
  | some fn => fn.body.isSome && !decide (fn.name = "runtime.NumGoroutine")
  | none => false

abbrev CodeRun := Code → Nat → T Value → St → Option (Ex × T Value × St)
/-- what is known already: of functions, of loops -/
structure Ov where
  fn : Nat → Option (List Value → St → Option (Value × St))
  lp : Code → Option (Nat → T Value → St → Option (Ex × T Value × St))
instance : CoeFun Ov (fun _ => Nat → Option (List Value → St → Option (Value × St))) := ⟨Ov.fn⟩

def setParams : List Value → Nat → T Value → T Value
  | [], _, t => t
  | v :: l, n, t => setParams l (n + 1) (t.set n v)

def resultOf (cx : Cx) (tm : T Value) (st : St) : ResultVar → Option Value
  | .tmp t => tm.get t
  | .cell a t => match tm.get a with
    | some (.pointer (some a)) => match cx.isAgg t, cx.size t with
      | some true, some n => match readCells st a n with
        | some l => some (.agg ⟨l⟩)
        | none => none
      | some false, some _ => match readCells st a 1 with
        | some [v] => some v
        | _ => none
      | _, _ => none
    | _ => none
def resultsOf (cx : Cx) (tm : T Value) (st : St) : List ResultVar → Option (List Value)
  | [] => some []
  | r :: l => match resultOf cx tm st r with
    | some v => match resultsOf cx tm st l with
      | some vs => some (v :: vs)
      | none => none
    | none => none

def callA (cx : Cx) (ov : Ov) (ih : CodeRun) (f : Nat) (args : List Value) (st : St) : Option (Value × St) :=
  match ov f with
  | some g => g args st
  | none => match cx.fn.get f with
    | some fn => match fn.body with
      | some c => match Nat.ble args.length fn.ntmps with
        | true => match ih c fn.ntmps (setParams args 0 .nil) st with
          | some (ex, tm, st') => match decide (fn.name = "runtime.NumGoroutine") with
            | false => match ex with
              | .exit _ | .goto _ => none
              | _ => match resultsOf cx tm st' fn.results.toList with
                | some [v] => some (v, st')
                | some vs => some (.tuple ⟨vs⟩, st')
                | none => none
            | true => none
          | none => none
        | false => none
      | none => none
    | none => none

/-- what a round is called with -/
def roundTm (nt : Nat) : List Tmp → List Value → T Value → Option (T Value)
  | [], [], tm => some tm
  | p :: ps, v :: vs, tm => match Nat.blt p nt with
    | true => roundTm nt ps vs (tm.set p v)
    | false => none
  | _, _, _ => none

/-- a call of yield: one round -/
def yieldA (ih : CodeRun) (l : Nat) (as : List Value) (st : St) : Option (Value × St) :=
  match st.hp.get l with
  | some (.loopO .ready none tm nt ps assign body) => match noRF assign && noRF body, roundTm nt ps as tm with
    | true, some t1 => match ih assign nt t1 st with
      | some (e1, t2, s2) => match e1, s2.hp.get l with
        | .normal, some (.loopO .ready none tm2 nt2 ps2 as2 bo2) => match ih body nt t2 { s2 with hp := s2.hp.set l (.loopO .busy none tm2 nt2 ps2 as2 bo2) } with
          | some (e2, _, s3) => match s3.hp.get l with
            | some (.loopO .busy none tm3 nt3 ps3 as3 bo3) => match e2 with
              | .normal => some (.bool true, { s3 with hp := s3.hp.set l (.loopO .ready none tm3 nt3 ps3 as3 bo3) })
              | e => some (.bool false, { s3 with hp := s3.hp.set l (.loopO .done (some e) tm3 nt3 ps3 as3 bo3) })
            | _ => none
          | none => none
        | _, _ => none
      | none => none
    | _, _ => none
  | _ => none

def callOp (cx : Cx) (ov : Ov) (ih : CodeRun) (tm : T Value) (st : St) : Op → Option (Value × St)
  | .call c => match c.callee with
    | .value f => match ev cx tm f, evs cx tm c.args.toList with
      | some (.func fn first captured), some as => match fn with
        | .func k => callA cx ov ih k (first.toList ++ as ++ captured.toList) st
        | .yield l => match first.toList, captured.toList with
          | [], [] => yieldA ih l as st
          | _, _ => none
        | _ => none
      | _, _ => none
    | _ => none
  | _ => none

/-- a range over a function -/
def rangeA (cx : Cx) (ov : Ov) (ih : CodeRun) (f : Operand) (ps : List Tmp) (assign body : Code) (nt : Nat) (tm : T Value) (st : St) : Option (Ex × T Value × St) :=
  match ev cx tm f with
  | some (.func fn first captured) => match fn with
    | .func k => match entersA cx k with
      | true => match callA cx ov ih k (first.toList ++ .func (.yield st.ct) #[] #[] :: captured.toList) ⟨st.hp.set st.ct (.loopO .ready none tm nt ps assign body), st.ct + 1⟩ with
        | some (_, s2) => match s2.hp.get st.ct with
          | some (.loopO ls pend _ _ _ _ _) => match ls with
            | .busy => none
            | _ => match pend with
              | none => some (.normal, tm, { s2 with hp := s2.hp.del st.ct })
              | some e => some (e, tm, { s2 with hp := s2.hp.del st.ct })
          | _ => none
        | none => none
      | false => none
    | _ => none
  | _ => none

inductive Kind where
  | pure | alloc | read | heavy
  deriving DecidableEq

/-- what an operation does, by sight -/
def kindOf (cx : Cx) : Op → Kind
  | .alloc _ | .box .. | .buildSlice .. | .makeSlice .. | .makeMap .. => .alloc
  | .range t _ => match cx.desc t with
    | some .string => .alloc
    | _ => .heavy
  | .convert s d _ => match cx.desc s, cx.desc d with
    | some .string, some (.slice _) => .alloc
    | some (.slice _), some .string => .read
    | some (.pointer _), some .unsafePointer => .read
    | some .unsafePointer, some (.pointer _) => .read
    | _, _ => .pure
  | .load .. | .lookup .. => .read
  | .slice t _ _ _ _ => match cx.desc t with
    | some (.slice _) => .read
    | _ => .pure
  | .store .. | .mapUpdate .. | .insert .. | .next .. | .mapEntry .. | .entryStore .. | .entry .. => .heavy
  | .call c => match c.callee with
    | .builtin b => match b with
      | .len => match c.argTypes.toList with
        | [t] => match cx.desc t with
          | some (.map _ _) => .read
          | _ => .pure
        | _ => .pure
      | .cap | .min | .max => .pure
      | _ => .heavy
    | _ => .heavy
  | _ => .pure

def opA (cx : Cx) (ov : Ov) (ih : CodeRun) (tm : T Value) (st : St) (o : Oper) : Option (Value × St) :=
  match kindOf cx o.op with
  | .pure => match pureOp cx tm o.op with
    | some v => some (v, st)
    | none => none
  | .alloc => match allocOp cx tm o.op with
    | some (ob, f) => some (f st.ct, ⟨st.hp.set st.ct ob, st.ct + 1⟩)
    | none => none
  | .read => match readOp cx tm st o.op with
    | some v => some (v, st)
    | none => none
  | .heavy => match heavyOp cx tm st o.op with
    | some r => some r
    | none => callOp cx ov ih tm st o.op

/-- is the operation to be done? -/
def wantedA (ops : List Oper) (tm : T Value) (o : Oper) : Option Bool :=
  match o.guard with
  | none => some true
  | some (j, want) => match ops[j]? with
    | some p => match p.dst with
      | some d => match tm.get d with
        | some (.bool b) => some (b == want)
        | some (.chan _) => none
        | some _ => some false
        | none => none
      | none => none
    | none => none

def putDst (nt : Nat) (tm : T Value) (d : Option Tmp) (v : Value) : Option (T Value) :=
  match d with
  | none => some tm
  | some d => match Nat.blt d nt with
    | true => some (tm.set d v)
    | false => none

def opsA (cx : Cx) (ov : Ov) (ih : CodeRun) (nt : Nat) (all : List Oper) : List Oper → T Value → St → Option (T Value × St)
  | [], tm, st => some (tm, st)
  | o :: l, tm, st => match wantedA all tm o with
    | some true => match opA cx ov ih tm st o with
      | some (v, st') => match putDst nt tm o.dst v with
        | some tm' => opsA cx ov ih nt all l tm' st'
        | none => none
      | none => none
    | some false => match putDst nt tm o.dst undef with
      | some tm' => opsA cx ov ih nt all l tm' st
      | none => none
    | none => none

/-! ### regions whose order is open -/
mutual
def beqV : Value → Value → Bool
  | .bool a, .bool b => decide (a = b)
  | .int j a, .int k b => decide (j = k) && decide (a = b)
  | .string a, .string b => eqStr a b
  | .pointer a, .pointer b => decide (a = b)
  | .slice a n c, .slice b k d => decide (a = b) && Nat.beq n k && Nat.beq c d
  | .map a, .map b => decide (a = b)
  | .nilFunc, .nilFunc => true
  | .nilIface, .nilIface => true
  | .func f a b, .func g c d => decide (f = g) && beqVA a c && beqVA b d
  | .iface t v, .iface u w => Nat.beq t u && beqV v w
  | .agg a, .agg b => beqVA a b
  | .tuple a, .tuple b => beqVA a b
  | _, _ => false
def beqVA : Array Value → Array Value → Bool
  | ⟨a⟩, ⟨b⟩ => beqVL a b
def beqVL : List Value → List Value → Bool
  | [], [] => true
  | x :: a, y :: b => beqV x y && beqVL a b
  | _, _ => false
end

abbrev Pend := List (Nat × Nat × AObj)

structure DS where
  tm : T Value
  st : St
  pend : Pend
  past : List (Nat × T AObj × Pend)
  reads : List (Nat × T Value × Op × Value)

def mergeP (bef : Nat) : Pend → T AObj → T AObj
  | [], hp => hp
  | (j, id, ob) :: l, hp => match bef.testBit j with
    | true => (mergeP bef l hp).set id ob
    | false => mergeP bef l hp
def restP (bef : Nat) : Pend → Pend
  | [] => []
  | p :: l => match bef.testBit p.1 with
    | true => restP bef l
    | false => p :: restP bef l

def readAt (cx : Cx) (tm : T Value) (hp : T AObj) (pend : Pend) (bef : Nat) (op : Op) : Option Value := readOp cx tm ⟨mergeP bef pend hp, 0⟩ op
def readIs (cx : Cx) (tm : T Value) (hp : T AObj) (pend : Pend) (bef : Nat) (op : Op) (v : Value) : Bool :=
  match readAt cx tm hp pend bef op with
  | some u => beqV v u
  | none => false

def pastOk (cx : Cx) (bef : Nat) (tm : T Value) (op : Op) (v : Value) : List (Nat × T AObj × Pend) → Bool
  | [] => true
  | (h, hp, pend) :: l => (bef.testBit h || readIs cx tm hp pend bef op v) && pastOk cx bef tm op v l
/-- behind a heavy operation: what was read ahead of it, in the text's order, and may be read behind it, is as it was -/
def readsOk (cx : Cx) (befs : List Nat) (bef : Nat) (hp : T AObj) (pend : Pend) : List (Nat × T Value × Op × Value) → Bool
  | [] => true
  | (r, tm, op, v) :: l => (bef.testBit r || readIs cx tm hp pend (befs.getD r 0) op v) && readsOk cx befs bef hp pend l

def putD (nt : Nat) (ds : DS) (d : Option Tmp) (v : Value) : Option DS :=
  match putDst nt ds.tm d v with
  | some tm => some { ds with tm }
  | none => none

def dstIn (d : Option Tmp) (l : List Tmp) : Bool :=
  match d with
  | none => false
  | some d => l.any (Nat.beq d)
def looks (all : List Oper) (o : Oper) : List Tmp :=
  (o.op.operands.toList.filterMap fun | .tmp t => some t | _ => none) ++
  (match o.guard with
   | some (g, _) => match all[g]? with
     | some p => p.dst.toList
     | none => []
   | none => [])
/-- the temporaries that are looked at, alone -/
def limit (tm : T Value) : List Tmp → T Value
  | [] => .nil
  | t :: l => match tm.get t with
    | some v => (limit tm l).set t v
    | none => limit tm l

def stepD (cx : Cx) (ov : Ov) (ih : CodeRun) (nt : Nat) (all : List Oper) (befs : List Nat) (i : Nat) (o : Oper) (ds : DS) : Option DS :=
  match wantedA all (limit ds.tm (looks all o)) o with
  | none => none
  | some false => putD nt ds o.dst undef
  | some true => match kindOf cx o.op with
    | .pure => match pureOp cx (limit ds.tm (looks all o)) o.op with
      | some v => putD nt ds o.dst v
      | none => none
    | .alloc => match allocOp cx (limit ds.tm (looks all o)) o.op with
      | some (ob, f) => putD nt { ds with st := ⟨ds.st.hp, ds.st.ct + 1⟩, pend := (i, ds.st.ct, ob) :: ds.pend } o.dst (f ds.st.ct)
      | none => none
    | .read => match readAt cx (limit ds.tm (looks all o)) ds.st.hp ds.pend (befs.getD i 0) o.op with
      | some v => match pastOk cx (befs.getD i 0) (limit ds.tm (looks all o)) o.op v ds.past with
        | true => putD nt { ds with reads := (i, limit ds.tm (looks all o), o.op, v) :: ds.reads } o.dst v
        | false => none
      | none => none
    | .heavy => match opA cx ov ih (limit ds.tm (looks all o)) ⟨mergeP (befs.getD i 0) ds.pend ds.st.hp, ds.st.ct⟩ o with
      | some (v, st') => match readsOk cx befs (befs.getD i 0) st'.hp (restP (befs.getD i 0) ds.pend) ds.reads with
        | true => putD nt { ds with st := st', pend := restP (befs.getD i 0) ds.pend, past := (i, ds.st.hp, ds.pend) :: ds.past } o.dst v
        | false => none
      | none => none

def stepsD (cx : Cx) (ov : Ov) (ih : CodeRun) (nt : Nat) (all : List Oper) (befs : List Nat) : Nat → List Oper → DS → Option DS
  | _, [], ds => some ds
  | i, o :: l, ds => match stepD cx ov ih nt all befs i o ds with
    | some ds' => stepsD cx ov ih nt all befs (i + 1) l ds'
    | none => none

/-- what stands ahead of each operation, whatever the order -/
def befOf (acc : List Nat) : List Edge → Nat
  | [] => 0
  | e :: l => match Region.binds .any e with
    | true => 2 ^ e.on ||| acc.getD e.on 0 ||| befOf acc l
    | false => befOf acc l
def befsOf : List Oper → List Nat → List Nat
  | [], acc => acc
  | o :: l, acc => befsOf l (acc ++ [befOf acc o.after.toList])

/-- must the two stay in their order? -/
def tied (cx : Cx) (all : List Oper) (x y : Oper) : Bool :=
  dstIn x.dst (looks all y) || dstIn x.dst y.dst.toList || dstIn y.dst (looks all x) || (decide (kindOf cx x.op = .heavy) && decide (kindOf cx y.op = .heavy))
def tiedOk (cx : Cx) (all : List Oper) (bef : Nat) (y : Oper) : Nat → List Oper → Bool
  | _, [] => true
  | i, x :: l => (bef.testBit i || !tied cx all x y) && tiedOk cx all bef y (i + 1) l
def backOk (j : Nat) : List Edge → Bool
  | [] => true
  | e :: l => (!Region.binds .any e || Nat.blt e.on j) && backOk j l
def drawOkFrom (cx : Cx) (all : List Oper) (befs : List Nat) : Nat → List Oper → Bool
  | _, [] => true
  | j, y :: l => tiedOk cx all (befs.getD j 0) y 0 (all.take j) && backOk j y.after.toList && drawOkFrom cx all befs (j + 1) l
def noSelectA : List Oper → Bool
  | [] => true
  | o :: l => (match o.op with | .select .. => false | _ => true) && noSelectA l
def drawOk (cx : Cx) (all : List Oper) : Bool := noSelectA all && drawOkFrom cx all (befsOf all []) 0 all

def mergeAll : Pend → T AObj → T AObj
  | [], hp => hp
  | (_, id, ob) :: l, hp => (mergeAll l hp).set id ob

def drawA (cx : Cx) (ov : Ov) (ih : CodeRun) (nt : Nat) (all : List Oper) (tm : T Value) (st : St) : Option (T Value × St) :=
  match drawOk cx all with
  | true => match stepsD cx ov ih nt all (befsOf all []) 0 all ⟨tm, st, [], [], []⟩ with
    | some ds => some (ds.tm, ⟨mergeAll ds.pend ds.st.hp, ds.st.ct⟩)
    | none => none
  | false => none

/-! ### ranges over maps -/
def dstsOf : Code → List Tmp
  | .region _ ops _ => ops.toList.filterMap (·.dst)
  | .seq a b => dstsOf a ++ dstsOf b
  | .cond _ a b => dstsOf a ++ dstsOf b
  | .block _ a => dstsOf a
  | .loop a => dstsOf a
  | .scope a => dstsOf a
  | .rangeFunc _ ps a b => ps.toList ++ dstsOf a ++ dstsOf b
  | _ => []

def forget : List Tmp → T Value → T Value
  | [], tm => tm
  | t :: l, tm => forget l (tm.del t)

def T.mapO {α : Type} (f : α → Option α) : T α → T α
  | .nil => .nil
  | .node v l r => .node (match v with | some x => f x | none => none) (l.mapO f) (r.mapO f)

/-- an object that nothing may write -/
def frz : AObj → Option AObj
  | .row e cs o _ => some (.row e cs o false)
  | .map es lk _ => some (.map es lk false)
  | _ => none

structure MapLoop where
  it : Nat
  d1 : Nat
  d2 : Nat
  d3 : Nat
  xid : Nat
  bid : Nat
  oN : Oper
  oX : Oper
  oE : Oper
  ops : List Oper
  rest : Code

/-- the translator's form of a range over a map -/
def mapLoopOf (r1 r2 : List Oper) (x : Operand) (xid bid : Nat) (rest : Code) : Option MapLoop :=
  match r1 with
  | [oN, oX] => match oN.op with
    | .next (.tmp it) false => match r2 with
      | oE :: ops => match oE.op with
        | .entry (.tmp it') => match oX.op with
          | .extract (.tmp d1') 0 => match oN.dst, oX.dst, oE.dst, x with
            | some d1, some d2, some d3, .tmp d2' => match Nat.beq it it' && Nat.beq d1 d1' && Nat.beq d2 d2' && oN.guard.isNone && oX.guard.isNone && oE.guard.isNone with
              | true => some ⟨it, d1, d2, d3, xid, bid, oN, oX, oE, ops, rest⟩
              | false => none
            | _, _, _, _ => none
          | _ => none
        | _ => none
      | [] => none
    | _ => none
  | _ => none

def mapLoop : Code → Option MapLoop
  | .seq a b => match a, b with
    | .region _ r1 false, .seq c d => match c, d with
      | .cond x .skip (.exit xid), .block bid body => match body with
        | .seq e rest => match e with
          | .region _ r2 false => mapLoopOf r1.toList r2.toList x xid bid rest
          | _ => none
        | _ => none
      | _, _ => none
    | _, _ => none
  | _ => none

/-- what a round came to: the counter, what it adds up, how it left -/
structure Rd where
  ct : Nat
  c : Int
  lv : Option (Ex × T Value)

/-- a round that adds up bits: the variable, what stands ahead of the operation, the operation, what stands behind it -/
structure FoldF where
  r : Nat
  x : Nat
  y : Nat
  tb : Nat
  op : BinOp
  oB : Oper
  rid : Nat
  pre : List Oper
  post : List Oper
  rest2 : Code

def bitsOp : BinOp → Bool
  | .and | .or | .xor | .andNot => true
  | _ => false
def isBits (o : Oper) : Option (BinOp × Nat × Nat × Nat) :=
  match o.op with
  | .binOp op _ (.tmp x) (.tmp y) _ => match o.dst with
    | some tb => match bitsOp op && o.guard.isNone with
      | true => some (op, x, y, tb)
      | false => none
    | none => none
  | _ => none
def cutBits : List Oper → List Oper → Option (List Oper × Oper × (BinOp × Nat × Nat × Nat) × List Oper)
  | _, [] => none
  | pre, o :: l => match isBits o with
    | some q => some (pre, o, q, l)
    | none => cutBits (pre ++ [o]) l
def lastDst : List Oper → Option Nat
  | [] => none
  | [o] => o.dst
  | _ :: l => lastDst l
def foldOf (c : Code) : Option FoldF :=
  match c with
  | .seq a rest2 => match a with
    | .region rid ops false => match cutBits [] ops.toList with
      | some (pre, oB, q, post) => match lastDst post with
        | some r => some ⟨r, q.2.1, q.2.2.1, q.2.2.2, q.1, oB, rid, pre, post, rest2⟩
        | none => none
      | none => none
    | _ => none
  | _ => none

def bitsI (op : BinOp) (k : IntKind) (z c : Int) : Int :=
  match op with
  | .and => k.wrap (BitVec.ofInt k.bits z &&& BitVec.ofInt k.bits c).toNat
  | .or => k.wrap (BitVec.ofInt k.bits z ||| BitVec.ofInt k.bits c).toNat
  | .xor => k.wrap (BitVec.ofInt k.bits z ^^^ BitVec.ofInt k.bits c).toNat
  | _ => k.wrap (BitVec.ofInt k.bits z &&& ~~~BitVec.ofInt k.bits c).toNat

def endRound (bid : Nat) (ct : Nat) (c : Int) (tm : T Value) (ok : Bool) : Ex → Option Rd
  | .normal => match ok with | true => some ⟨ct, c, none⟩ | false => none
  | .exit b => match Nat.beq b bid with
    | true => match ok with | true => some ⟨ct, c, none⟩ | false => none
    | false => some ⟨ct, c, some (.exit b, tm)⟩
  | e => some ⟨ct, c, some (e, tm)⟩

def headRound (nt : Nat) (L : MapLoop) (tm0 : T Value) (k v : Value) : Option (T Value) :=
  match putDst nt tm0 (some L.d1) (.tuple #[.bool true, k, v]) with
  | some t1 => match putDst nt t1 (some L.d2) (.bool true) with
    | some t2 => putDst nt t2 (some L.d3) (.tuple #[k, v])
    | none => none
  | none => none

def isSign (v : Option Value) (s : Nat) : Bool :=
  match v with
  | some (.chan (some i)) => Nat.beq i s
  | _ => false

def plainRound (cx : Cx) (ov : Ov) (ih : CodeRun) (nt : Nat) (L : MapLoop) (t3 : T Value) (st0 : St) : Option Rd :=
  match opsA cx ov ih nt (L.oE :: L.ops) L.ops t3 st0 with
  | some (t4, s4) => match ih L.rest nt t4 s4 with
    | some (ex, t5, s5) => endRound L.bid s5.ct 0 t5 true ex
    | none => none
  | none => none

/-- the variable is a sign: its value is not looked at -/
def foldRound (cx : Cx) (ov : Ov) (ih : CodeRun) (nt : Nat) (L : MapLoop) (F : FoldF) (kd : IntKind) (sg : Nat) (t3 : T Value) (st0 : St) : Option Rd :=
  match opsA cx ov ih nt (L.oE :: L.ops) L.ops t3 st0 with
  | some (t4, s4) => match opsA cx ov ih nt (F.pre ++ F.oB :: F.post) F.pre t4 s4 with
    | some (t5, s5) => match isSign (t5.get F.x) sg, t5.get F.y with
      | true, some (.int k c) => match decide (k = kd), putDst nt t5 (some F.tb) (.chan (some (sg + 1))) with
        | true, some t6 => match opsA cx ov ih nt (F.pre ++ F.oB :: F.post) F.post t6 s5 with
          | some (t7, s7) => match ih F.rest2 nt t7 s7 with
            | some (ex, t8, s8) => endRound L.bid s8.ct c t8 (isSign (t8.get F.r) (sg + 1)) ex
            | none => none
          | none => none
        | _, _ => none
      | _, _ => none
    | none => none
  | none => none

abbrev FoldI := Option (FoldF × IntKind × Int)

def roundG (cx : Cx) (ov : Ov) (ih : CodeRun) (nt : Nat) (L : MapLoop) (F : FoldI) (tm0 : T Value) (st0 : St) (k v : Value) : Option Rd :=
  match F with
  | none => match headRound nt L tm0 k v with
    | some t3 => plainRound cx ov ih nt L t3 st0
    | none => none
  | some (F, kd, _) => match headRound nt L (tm0.set F.r (.chan (some st0.ct))) k v with
    | some t3 => foldRound cx ov ih nt L F kd st0.ct t3 ⟨st0.hp, st0.ct + 2⟩
    | none => none

def foldZ (F : FoldI) (z c : Int) : Int :=
  match F with
  | none => z
  | some (F, kd, _) => bitsI F.op kd z c
def startZ (F : FoldI) : Int :=
  match F with
  | none => 0
  | some (_, _, z) => z

/-! what is known whichever way the rounds left -/
def meetOne (t : Nat) (a b : T Value) : T Value :=
  match a.get t with
  | some x => match b.get t with
    | some y => match flat x && beqV x y with
      | true => a
      | false => a.del t
    | none => a.del t
  | none => a
def meetT : List Nat → T Value → T Value → T Value
  | [], a, _ => a
  | t :: l, a, b => meetT l (meetOne t a b) b
def joinLv (l : List Nat) : Option (Ex × T Value) → Option (Ex × T Value) → Option (Option (Ex × T Value))
  | a, none => some a
  | none, some (ex, tm) => some (some (ex, meetT l tm tm))
  | some (ex, tm), some (ex', tm') => match decide (ex = ex') with
    | true => some (some (ex, meetT l tm tm'))
    | false => none
def sumRounds (one : Value → Value → Option Rd) (f : Int → Int → Int) (l : List Nat) : List MapEntry → Nat → Int → Option (Ex × T Value) → Option (Nat × Int × Option (Ex × T Value))
  | [], ct, z, lv => some (ct, z, lv)
  | e :: es, ct, z, lv => match one e.key e.val with
    | some r => match joinLv l lv r.lv with
      | some lv' => sumRounds one f l es (Nat.max ct r.ct) (f z r.c) lv'
      | none => none
    | none => none

/-! are two keys surely not the same? -/
mutual
def keyNe : Value → Value → Bool
  | .bool a, .bool b => decide (a ≠ b)
  | .int _ a, .int _ b => decide (a ≠ b)
  | .string a, .string b => !eqStr a b
  | .agg a, .agg b => keyNeA a b
  | _, _ => false
def keyNeA : Array Value → Array Value → Bool
  | ⟨a⟩, ⟨b⟩ => keyNeL a b
def keyNeL : List Value → List Value → Bool
  | x :: a, y :: b => keyNe x y || keyNeL a b
  | _, _ => false
end
def apartFrom (k : Value) : List MapEntry → Bool
  | [] => true
  | e :: es => keyNe k e.key && apartFrom k es
def distinctKeys : List MapEntry → Bool
  | [] => true
  | e :: es => apartFrom e.key es && distinctKeys es

def entriesOf (st : St) : Option Nat → Option (List MapEntry)
  | none => some []
  | some r => match st.hp.get r with
    | some (.map es _ _) => match distinctKeys es with
      | true => some es
      | false => none
    | _ => none

/-- is it sure that each of the entries is met? -/
def fullOf (st : St) (m : Option Nat) (lk : Bool) : Bool :=
  match m with
  | none => true
  | some r => match st.hp.get r with
    | some (.map _ lk2 _) => lk && lk2
    | _ => false

def behindLoop (nt : Nat) (L : MapLoop) (F : FoldI) (tm0 : T Value) (st : St) (full : Bool) : Nat × Int × Option (Ex × T Value) → Option (Ex × T Value × St)
  | (ct, z, lv) => match lv with
    | none => match putDst nt tm0 (some L.d1) (.tuple #[.bool false]) with
      | some t1 => match putDst nt t1 (some L.d2) (.bool false) with
        | some t2 => match F with
          | none => some (.exit L.xid, t2, ⟨st.hp, ct⟩)
          | some (F, k, _) => match full, putDst nt t2 (some F.r) (.int k z) with
            | true, some t3 => some (.exit L.xid, t3, ⟨st.hp, ct⟩)
            | _, _ => none
        | none => none
      | none => none
    | some (ex, tl) => match full with
      | true => some (ex, tl, ⟨st.hp, ct⟩)
      | false => none

def loopG (cx : Cx) (ov : Ov) (ih : CodeRun) (c : Code) (L : MapLoop) (nt : Nat) (F : FoldI) (tm0 : T Value) (st : St) : Option (Ex × T Value × St) :=
  match tm0.get L.it with
  | some (.pointer (some a)) => match a.spot.isNone && Nat.beq a.off 0 with
    | true => match st.hp.get a.block with
      | some (.iterM m lk) => match entriesOf st m with
        | some es => match sumRounds (roundG cx ov ih nt L F tm0 ⟨(st.hp.del a.block).mapO frz, st.ct⟩) (foldZ F) (dstsOf c) es st.ct (startZ F) none with
          | some q => behindLoop nt L F tm0 ⟨st.hp.del a.block, st.ct⟩ (fullOf st m lk) q
          | none => none
        | none => none
      | _ => none
    | false => none
  | _ => none

def foldI (L : MapLoop) (tm : T Value) : FoldI :=
  match foldOf L.rest with
  | some F => match Nat.beq F.r L.d1 || Nat.beq F.r L.d2 with
    | true => none
    | false => match tm.get F.r with
      | some (.int k z) => some (F, k, z)
      | _ => none
  | none => none

def loopM (cx : Cx) (ov : Ov) (ih : CodeRun) (c : Code) (L : MapLoop) (nt : Nat) (tm : T Value) (st : St) : Option (Ex × T Value × St) :=
  match loopG cx ov ih c L nt none (forget (dstsOf c) tm) st with
  | some q => some q
  | none => match foldI L tm with
    | some q => loopG cx ov ih c L nt (some q) (forget (dstsOf c) tm) st
    | none => none

/-- behind a goto, in a scope -/
def scopeA (ih : CodeRun) (body : Code) (nt : Nat) : Nat → Code → T Value → St → Option (Ex × T Value × St)
  | 0, _, _, _ => none
  | n + 1, c, tm, st => match ih c nt tm st with
    | some (ex, tm', st') => match ex with
      | .goto l => match findLabel body l with
        | some rest => scopeA ih body nt n rest tm' st'
        | none => some (.goto l, tm', st')
      | e => some (e, tm', st')
    | none => none

def stepA (cx : Cx) (ov : Ov) (ih : CodeRun) : CodeRun := fun c nt tm st =>
  match c with
  | .skip | .label _ => some (.normal, tm, st)
  | .ret => some (.ret, tm, st)
  | .exit id => some (.exit id, tm, st)
  | .goto l => some (.goto l, tm, st)
  | .scope a => scopeA ih a nt 100000 a tm st
  | .rangeFunc f ps assign body => rangeA cx ov ih f ps.toList assign body nt tm st
  | .seq a b => match ih a nt tm st with
    | some (ex, tm', st') => match ex with
      | .normal => ih b nt tm' st'
      | _ => some (ex, tm', st')
    | none => none
  | .cond x a b => match ev cx tm x with
    | some (.bool true) => ih a nt tm st
    | some (.bool false) => ih b nt tm st
    | _ => none
  | .block id a => match ih a nt tm st with
    | some (ex, tm', st') => match ex with
      | .exit id' => match Nat.beq id' id with
        | true => some (.normal, tm', st')
        | false => some (.exit id', tm', st')
      | _ => some (ex, tm', st')
    | none => none
  | .loop a => match ov.lp a with
    | some g => g nt tm st
    | none => match mapLoop a with
      | some L => loopM cx ov ih a L nt tm st
      | none => match ih a nt tm st with
        | some (ex, tm', st') => match ex with
          | .normal => ih (.loop a) nt tm' st'
          | _ => some (ex, tm', st')
        | none => none
  | .region _ ops draw => match draw with
    | false => match opsA cx ov ih nt ops.toList ops.toList tm st with
      | some (tm', st') => some (.normal, tm', st')
      | none => none
    | true => match drawA cx ov ih nt ops.toList tm st with
      | some (tm', st') => some (.normal, tm', st')
      | none => none
  | _ => none

def run (cx : Cx) (ov : Ov) : Nat → CodeRun
  | 0 => fun _ _ _ _ => none
  | n + 1 => stepA cx ov (run cx ov n)

def call (cx : Cx) (ov : Ov) (n : Nat) (f : Nat) (args : List Value) (st : St) : Option (Value × St) := callA cx ov (run cx ov n) f args st

end
end Go.Ai

/-! Facts on the trie of the abstract interpreter. -/
namespace Go.Ai
open Go

theorem beqMod (k : Nat) : Nat.beq (Nat.mod k 2) 0 = decide (k % 2 = 0) := by
  show Nat.beq (k % 2) 0 = _
  rcases Nat.mod_two_eq_zero_or_one k with h | h <;> rw [h] <;> rfl

theorem T.get_nil {α : Type} (i : Nat) : (T.nil : T α).get i = none := rfl
theorem T.get_zero {α : Type} (v : Option α) (l r : T α) : (T.node v l r).get 0 = v := rfl
theorem T.get_succ {α : Type} (v : Option α) (l r : T α) (k : Nat) :
    (T.node v l r).get (k + 1) = if k % 2 = 0 then l.get (k / 2) else r.get (k / 2) := by
  show Bool.rec (motive := fun _ => Option α) (r.get (k / 2)) (l.get (k / 2)) (Nat.beq (Nat.mod k 2) 0) = _
  rw [beqMod]
  by_cases h : k % 2 = 0 <;> simp [h]

theorem T.put_zero {α : Type} (v w : Option α) (l r : T α) : (T.node w l r).put v 0 = .node v l r := rfl
theorem T.put_succ {α : Type} (v w : Option α) (l r : T α) (k : Nat) :
    (T.node w l r).put v (k + 1) = if k % 2 = 0 then .node w (l.put v (k / 2)) r else .node w l (r.put v (k / 2)) := by
  show Bool.rec (motive := fun _ => T α) (.node w l (r.put v (k / 2))) (.node w (l.put v (k / 2)) r) (Nat.beq (Nat.mod k 2) 0) = _
  rw [beqMod]
  by_cases h : k % 2 = 0 <;> simp [h]
theorem T.one_zero {α : Type} (v : Option α) (f : Nat) : T.one v f 0 = .node v .nil .nil := by cases f <;> rfl
theorem T.one_succ {α : Type} (v : Option α) (f k : Nat) :
    T.one v (f + 1) (k + 1) = if k % 2 = 0 then .node none (T.one v f (k / 2)) .nil else .node none .nil (T.one v f (k / 2)) := by
  show Bool.rec (motive := fun _ => T α) (.node none .nil (T.one v f (k / 2))) (.node none (T.one v f (k / 2)) .nil) (Nat.beq (Nat.mod k 2) 0) = _
  rw [beqMod]
  by_cases h : k % 2 = 0 <;> simp [h]

theorem half_ne {k j : Nat} (h : k % 2 = j % 2) (hne : k ≠ j) : k / 2 ≠ j / 2 := by omega

theorem T.get_one {α : Type} (v : Option α) (f : Nat) : ∀ (n : Nat), n ≤ f → ∀ i, (T.one v f n).get i = if i = n then v else none := by
  induction f with
  | zero =>
    intro n hn i
    obtain rfl : n = 0 := by omega
    rw [T.one_zero]
    cases i with
    | zero => rfl
    | succ j => simp [T.get_succ, T.get_nil]
  | succ f ih =>
    intro n hn i
    cases n with
    | zero =>
      rw [T.one_zero]
      cases i with
      | zero => rfl
      | succ j => simp [T.get_succ, T.get_nil]
    | succ k =>
      have hk : k / 2 ≤ f := by omega
      rw [T.one_succ]
      by_cases h : k % 2 = 0
      · rw [if_pos h]
        cases i with
        | zero => simp [T.get_zero]
        | succ j =>
          rw [T.get_succ, ih _ hk, T.get_nil]
          by_cases hj : j % 2 = 0
          · by_cases e : j = k
            · subst e; simp [hj]
            · have := half_ne (k := j) (j := k) (by omega) e
              simp [hj, e, this]
          · have e : j ≠ k := by omega
            simp [hj, e]
      · rw [if_neg h]
        cases i with
        | zero => simp [T.get_zero]
        | succ j =>
          rw [T.get_succ, ih _ hk, T.get_nil]
          by_cases hj : j % 2 = 0
          · have e : j ≠ k := by omega
            simp [hj, e]
          · by_cases e : j = k
            · subst e; simp [hj]
            · have := half_ne (k := j) (j := k) (by omega) e
              simp [hj, e, this]

theorem T.get_put {α : Type} (v : Option α) : ∀ (t : T α) (n : Nat) (i : Nat), (t.put v n).get i = if i = n then v else t.get i := by
  intro t
  induction t with
  | nil => intro n i; exact T.get_one v n n (Nat.le_refl _) i
  | node w l r ihl ihr =>
    intro n i
    cases n with
    | zero =>
      rw [T.put_zero]
      cases i with
      | zero => rfl
      | succ j => simp [T.get_succ]
    | succ k =>
      rw [T.put_succ]
      by_cases h : k % 2 = 0
      · rw [if_pos h]
        cases i with
        | zero => simp [T.get_zero]
        | succ j =>
          rw [T.get_succ, T.get_succ, ihl]
          by_cases hj : j % 2 = 0
          · by_cases e : j = k
            · subst e; simp [hj]
            · have := half_ne (k := j) (j := k) (by omega) e
              simp [hj, e, this]
          · have e : j ≠ k := by omega
            simp [hj, e]
      · rw [if_neg h]
        cases i with
        | zero => simp [T.get_zero]
        | succ j =>
          rw [T.get_succ, T.get_succ, ihr]
          by_cases hj : j % 2 = 0
          · have e : j ≠ k := by omega
            simp [hj, e]
          · by_cases e : j = k
            · subst e; simp [hj]
            · have := half_ne (k := j) (j := k) (by omega) e
              simp [hj, e, this]

theorem T.get_set {α : Type} (t : T α) (n : Nat) (v : α) (i : Nat) : (t.set n v).get i = if i = n then some v else t.get i :=
  T.get_put (some v) t n i
theorem T.get_del {α : Type} (t : T α) (n : Nat) (i : Nat) : (t.del n).get i = if i = n then none else t.get i :=
  T.get_put none t n i

theorem T.get_ofListFrom {α : Type} (l : List α) : ∀ (n : Nat) (t : T α) (i : Nat),
    (T.ofListFrom l n t).get i = if n ≤ i ∧ i < n + l.length then l[i - n]? else t.get i := by
  induction l with
  | nil => intro n t i; simp only [T.ofListFrom, List.length_nil]; rw [if_neg (by omega)]
  | cons x l ih =>
    intro n t i
    simp only [T.ofListFrom, ih, T.get_set, List.length_cons]
    by_cases h : n = i
    · subst h; rw [if_neg (by omega), if_pos rfl, if_pos (by omega)]; simp
    · by_cases h1 : n ≤ i
      · by_cases h2 : i < n + 1 + l.length
        · rw [if_pos ⟨by omega, h2⟩, if_pos ⟨h1, by omega⟩]
          rw [show i - n = (i - (n + 1)) + 1 by omega]; simp
        · rw [if_neg (by omega), if_neg (by omega), if_neg (by omega)]
      · rw [if_neg (by omega), if_neg (by omega), if_neg (by omega)]

theorem T.get_ofList {α : Type} (l : List α) (i : Nat) : (T.ofList l).get i = l[i]? := by
  rw [T.ofList, T.get_ofListFrom]
  by_cases h : i < l.length
  · rw [if_pos ⟨by omega, by omega⟩]; simp
  · rw [if_neg (by omega), T.get_nil]; simp [List.getElem?_eq_none (by omega : l.length ≤ i)]

theorem eqBytes_eq : ∀ (a b : List UInt8), eqBytes a b = decide (a = b)
  | [], [] => rfl
  | [], _ :: _ => rfl
  | _ :: _, [] => rfl
  | x :: a, y :: b => by
    have h : eqBytes (x :: a) (y :: b) = Bool.rec (motive := fun _ => Bool) false (eqBytes a b) (Nat.beq x.toNat y.toNat) := rfl
    rw [h, eqBytes_eq a b]
    cases hb : Nat.beq x.toNat y.toNat with
    | true =>
      have hx := UInt8.toNat_inj.1 (Nat.eq_of_beq_eq_true hb)
      subst hx
      simp
    | false =>
      have hx : x ≠ y := fun e => by subst e; simp at hb
      simp [hx]
theorem eqStr_eq (a b : ByteArray) : eqStr a b = decide (a = b) := by
  unfold eqStr
  rw [eqBytes_eq, Bool.eq_iff_iff, decide_eq_true_iff, decide_eq_true_iff, Array.toList_inj]
  constructor
  · intro h; exact ByteArray.ext h
  · intro h; rw [h]
end Go.Ai

/-! What an abstract value stands for: ids turned into places. -/
namespace Go.Ai
open Go

structure Loc where
  blk : Nat
  base : Nat
  cap : Nat
  /-- what a sign stands for -/
  val : Value

def sgn : Value → Value
  | .agg _ => .nilFunc
  | .tuple _ => .nilFunc
  | v => v
theorem sgn_cells (v : Value) : (sgn v).cells = #[sgn v] := by cases v <;> rfl
theorem sgn_cell (v : Value) : isCell (sgn v) = true := by cases v <;> rfl

def concAddr (μ : Nat → Loc) (a : Addr) : Addr := ⟨(μ a.block).blk, (μ a.block).base + a.off, none⟩
def concEnd (μ : Nat → Loc) (a : Addr) (c : Nat) : Addr :=
  match a.spot with
  | none => concAddr μ a
  | some d => concAddr μ ⟨a.block, a.off + (if c = 0 then 0 else d), none⟩
def concCap (μ : Nat → Loc) (id c : Nat) : Nat := if isOpen c = true then (μ id).cap - (openCap - c) else c

def concFn (μ : Nat → Loc) : Fn → Fn
  | .yield l => .yield (μ l).blk
  | .func f => .func f
  | .method n => .method n
  | .methodOf t n => .methodOf t n
  | .via t p f q => .via t p f q
@[simp] theorem concFn_func (μ : Nat → Loc) (f : FuncId) : concFn μ (.func f) = .func f := rfl
@[simp] theorem concFn_yield (μ : Nat → Loc) (l : Nat) : concFn μ (.yield l) = .yield (μ l).blk := rfl
@[simp] theorem concFn_method (μ : Nat → Loc) (n : String) : concFn μ (.method n) = .method n := rfl
@[simp] theorem concFn_methodOf (μ : Nat → Loc) (t : TypeId) (n : String) : concFn μ (.methodOf t n) = .methodOf t n := rfl
@[simp] theorem concFn_via (μ : Nat → Loc) (t : TypeId) (p : Array FieldStep) (f : FuncId) (q : Bool) : concFn μ (.via t p f q) = .via t p f q := rfl
theorem concFn_of {μ : Nat → Loc} {fn : Fn} (h : ∀ l, fn ≠ .yield l) : concFn μ fn = fn := by
  cases fn <;> first | rfl | exact absurd rfl (h _)

mutual
def conc (μ : Nat → Loc) : Value → Value
  | .pointer a => match a with | none => .pointer none | some a => .pointer (some (concAddr μ a))
  | .slice a n c => match a with | none => .slice none n c | some a => .slice (some (concEnd μ a (concCap μ a.block c))) n (concCap μ a.block c)
  | .map r => match r with | none => .map none | some r => .map (some (μ r).blk)
  | .func fn a b => .func (concFn μ fn) (concA μ a) (concA μ b)
  | .iface t v => .iface t (conc μ v)
  | .agg cs => .agg (concA μ cs)
  | .tuple cs => .tuple (concA μ cs)
  | .bool b => .bool b
  | .int k n => .int k n
  | .float k n => .float k n
  | .complex k n m => .complex k n m
  | .string s => .string s
  | .chan r => match r with | none => .chan none | some i => sgn (μ i).val
  | .nilFunc => .nilFunc
  | .nilIface => .nilIface
def concA (μ : Nat → Loc) : Array Value → Array Value
  | ⟨l⟩ => ⟨concL μ l⟩
def concL (μ : Nat → Loc) : List Value → List Value
  | [] => []
  | v :: l => conc μ v :: concL μ l
end

theorem concL_eq (μ : Nat → Loc) (l : List Value) : concL μ l = l.map (conc μ) := by
  induction l with
  | nil => simp [concL]
  | cons v l ih => simp [concL, ih]
theorem concA_eq (μ : Nat → Loc) (a : Array Value) : concA μ a = a.map (conc μ) := by
  cases a with
  | mk l => simp [concA, concL_eq]
theorem concA_toList (μ : Nat → Loc) (a : Array Value) : (concA μ a).toList = a.toList.map (conc μ) := by
  cases a with
  | mk l => simp [concA, concL_eq]
theorem concA_mk (μ : Nat → Loc) (l : List Value) : concA μ ⟨l⟩ = ⟨l.map (conc μ)⟩ := by simp [concA, concL_eq]

section
variable (μ : Nat → Loc)
@[simp] theorem conc_bool (b : Bool) : conc μ (.bool b) = .bool b := by simp [conc]
@[simp] theorem conc_int (k : IntKind) (n : Int) : conc μ (.int k n) = .int k n := by simp [conc]
@[simp] theorem conc_string (s : ByteArray) : conc μ (.string s) = .string s := by simp [conc]
@[simp] theorem conc_ptr (a : Addr) : conc μ (.pointer (some a)) = .pointer (some (concAddr μ a)) := by simp [conc]
@[simp] theorem conc_nilptr : conc μ (.pointer none) = .pointer none := by simp [conc]
@[simp] theorem conc_slice (a : Addr) (n c : Nat) : conc μ (.slice (some a) n c) = .slice (some (concEnd μ a (concCap μ a.block c))) n (concCap μ a.block c) := by simp [conc]
theorem concEnd_none {a : Addr} (h : a.spot = none) (c : Nat) : concEnd μ a c = concAddr μ a := by simp [concEnd, h]
@[simp] theorem conc_nilslice (n c : Nat) : conc μ (.slice none n c) = .slice none n c := by simp [conc]
@[simp] theorem conc_map (r : Nat) : conc μ (.map (some r)) = .map (some (μ r).blk) := by simp [conc]
@[simp] theorem conc_nilmap : conc μ (.map none) = .map none := by simp [conc]
@[simp] theorem conc_func (fn : Fn) (a b : Array Value) : conc μ (.func fn a b) = .func (concFn μ fn) (concA μ a) (concA μ b) := by simp [conc]
@[simp] theorem conc_nilFunc : conc μ .nilFunc = .nilFunc := by simp [conc]
@[simp] theorem conc_iface (t : TypeId) (v : Value) : conc μ (.iface t v) = .iface t (conc μ v) := by simp [conc]
@[simp] theorem conc_nilIface : conc μ .nilIface = .nilIface := by simp [conc]
@[simp] theorem conc_agg (cs : Array Value) : conc μ (.agg cs) = .agg (concA μ cs) := by simp [conc]
@[simp] theorem conc_tuple (cs : Array Value) : conc μ (.tuple cs) = .tuple (concA μ cs) := by simp [conc]
@[simp] theorem conc_goInt (n : Int) : conc μ (goInt n) = goInt n := by simp [goInt]
@[simp] theorem conc_undef : conc μ undef = undef := by simp [undef, concA_eq]
end

mutual
theorem conc_flat (μ : Nat → Loc) : ∀ v, flat v = true → conc μ v = v
  | .bool _, _ => by simp
  | .int .., _ => by simp
  | .float .., _ => by simp [conc]
  | .complex .., _ => by simp [conc]
  | .string _, _ => by simp
  | .pointer a, h => by cases a <;> simp_all [flat]
  | .slice a _ _, h => by cases a <;> simp_all [flat]
  | .map r, h => by cases r <;> simp_all [flat]
  | .chan r, h => by cases r <;> simp_all [flat, conc]
  | .func fn a b, h => by
    simp only [flat, Bool.and_eq_true] at h
    have hfn : concFn μ fn = fn := concFn_of fun l e => by subst e; simp at h
    simp [concA_flat μ a h.1.2, concA_flat μ b h.2, hfn]
  | .nilFunc, _ => by simp
  | .iface t v, h => by simp only [flat] at h; simp [conc_flat μ v h]
  | .nilIface, _ => by simp
  | .agg cs, h => by simp only [flat] at h; simp [concA_flat μ cs h]
  | .tuple cs, h => by simp only [flat] at h; simp [concA_flat μ cs h]
theorem concA_flat (μ : Nat → Loc) : ∀ a, flatA a = true → concA μ a = a
  | ⟨l⟩, h => by simp only [flatA] at h; simp only [concA, concL_flat μ l h]
theorem concL_flat (μ : Nat → Loc) : ∀ l, flatL l = true → concL μ l = l
  | [], _ => by simp [concL]
  | v :: l, h => by simp only [flatL, Bool.and_eq_true] at h; simp [concL, conc_flat μ v h.1, concL_flat μ l h.2]
end

theorem conc_cells (μ : Nat → Loc) (v : Value) : (conc μ v).cells = concA μ v.cells := by
  cases v with
  | pointer a => cases a <;> simp [Value.cells, concA_eq]
  | slice a n c => cases a <;> simp [Value.cells, concA_eq]
  | map r => cases r <;> simp [Value.cells, concA_eq]
  | agg cs => simp [Value.cells]
  | chan r =>
    cases r with
    | none => simp [Value.cells, concA_eq, conc]
    | some i => simp only [conc, sgn_cells]; simp [Value.cells, concA_eq, conc]
  | _ => simp [Value.cells, concA_eq, conc]

theorem conc_cells_list (μ : Nat → Loc) (v : Value) : (conc μ v).cells.toList = v.cells.toList.map (conc μ) := by
  rw [conc_cells, concA_toList]

theorem concAddr_add (μ : Nat → Loc) (a : Addr) (n : Nat) : concAddr μ (a.add n) = (concAddr μ a).add n := by
  unfold Addr.add
  by_cases h : n = 0
  · simp [h]
  · simp [h, concAddr, Nat.add_assoc]
theorem add_block (a : Addr) (n : Nat) : (a.add n).block = a.block := by
  unfold Addr.add; split <;> rfl
theorem add_off (a : Addr) (n : Nat) : (a.add n).off = a.off + n := by
  unfold Addr.add; split <;> simp_all

theorem isCell_conc (μ : Nat → Loc) (v : Value) : isCell (conc μ v) = isCell v := by
  cases v with
  | pointer a => cases a <;> simp [isCell]
  | slice a n c => cases a <;> simp [isCell]
  | map r => cases r <;> simp [isCell]
  | chan r =>
    cases r with
    | none => simp [isCell, conc]
    | some i => simp only [conc, sgn_cell]; simp [isCell]
  | _ => simp [isCell, conc]

/-! ### lists of cells -/
theorem dropCells_eq (n : Nat) : ∀ l r, dropCells n l = some r → n ≤ l.length ∧ r = l.drop n := by
  induction n with
  | zero => intro l r h; simp [dropCells] at h; subst h; simp
  | succ n ih =>
    intro l r h
    cases l with
    | nil => simp [dropCells] at h
    | cons v l => simp only [dropCells] at h; obtain ⟨h1, rfl⟩ := ih _ _ h; simp; omega
theorem takeCells_eq (n : Nat) : ∀ l r, takeCells n l = some r → n ≤ l.length ∧ r = l.take n := by
  induction n with
  | zero => intro l r h; simp [takeCells] at h; subst h; simp
  | succ n ih =>
    intro l r h
    cases l with
    | nil => simp [takeCells] at h
    | cons v l =>
      simp only [takeCells] at h
      cases hr : takeCells n l with
      | none => simp [hr] at h
      | some q =>
        simp [hr] at h; subst h
        obtain ⟨h1, rfl⟩ := ih _ _ hr
        simp; omega
theorem over_eq (vs : List Value) : ∀ l r, over vs l = some r → vs.length ≤ l.length ∧ r = vs ++ l.drop vs.length := by
  induction vs with
  | nil => intro l r h; simp [over] at h; subst h; simp
  | cons v vs ih =>
    intro l r h
    cases l with
    | nil => simp [over] at h
    | cons x l =>
      simp only [over] at h
      cases hr : over vs l with
      | none => simp [hr] at h
      | some q =>
        simp [hr] at h; subst h
        obtain ⟨h1, rfl⟩ := ih _ _ hr
        simp; omega
theorem putCells_eq (n : Nat) : ∀ vs l r, putCells n vs l = some r → n + vs.length ≤ l.length ∧ r = l.take n ++ vs ++ l.drop (n + vs.length) := by
  induction n with
  | zero =>
    intro vs l r h
    simp only [putCells] at h
    obtain ⟨h1, rfl⟩ := over_eq _ _ _ h
    simp [h1]
  | succ n ih =>
    intro vs l r h
    cases l with
    | nil => simp [putCells] at h
    | cons x l =>
      simp only [putCells] at h
      cases hr : putCells n vs l with
      | none => simp [hr] at h
      | some q =>
        simp [hr] at h; subst h
        obtain ⟨h1, rfl⟩ := ih _ _ _ hr
        simp [Nat.add_right_comm]; omega

end Go.Ai

/-! Operations that neither read nor change memory: what the abstract interpreter says of them is so. -/
namespace Go.Ai
open Go

theorem quiet_run {α : Type} {P : Program} {s : Sem α} {a : α} (h : quiet P s = some a) (w : World) : s.run P w = .ok a w := by
  induction s with
  | pure b => simp [quiet] at h; subst h; rfl
  | program k ih => simp only [quiet] at h; simp only [Sem.run]; exact ih P h
  | mark m k ih => simp only [quiet] at h; simp only [Sem.run]; exact ih h
  | _ => simp [quiet] at h

theorem quietFlat_run {P : Program} {s : Sem Value} {v : Value} (h : quietFlat P s = some v) (w : World) : s.run P w = .ok v w ∧ flat v = true := by
  unfold quietFlat at h
  cases hq : quiet P s with
  | none => simp [hq] at h
  | some a =>
    simp only [hq] at h
    cases hf : flat a with
    | false => simp [hf] at h
    | true => simp [hf] at h; subst h; exact ⟨quiet_run hq w, hf⟩

/-! ### types -/
theorem Cx.ty_get (P : Program) (t : TypeId) : (Cx.of P).ty.get t = P.types[t]? := by
  show (T.ofList P.types.toList).get t = _
  rw [T.get_ofList]; simp
theorem Cx.info {P : Program} {t : TypeId} {i : TypeInfo} (h : (Cx.of P).ty.get t = some i) : P.info? t = some i := by
  rw [Cx.ty_get] at h
  have hlt : t < P.types.size := (Array.getElem?_eq_some_iff.1 h).1
  simp only [Tables.info?, hlt, if_true, h]
theorem Cx.fn_get (P : Program) (f : Nat) : (Cx.of P).fn.get f = P.funcs[f]? := by
  show (T.ofList P.funcs.toList).get f = _
  rw [T.get_ofList]; simp

theorem Cx.desc_under {P : Program} {t : TypeId} {d : TypeDesc} (h : (Cx.of P).desc t = some d) : P.underlying t = some d := by
  unfold Cx.desc at h
  cases hi : (Cx.of P).ty.get t with
  | none => simp [hi] at h
  | some i =>
    have hi' := Cx.info hi
    simp only [hi] at h
    unfold Program.underlying
    cases hd : i.desc with
    | named nm u =>
      simp only [hd] at h
      cases hj : (Cx.of P).ty.get u with
      | none => simp [hj] at h
      | some j =>
        simp only [hj] at h
        have hj' := Cx.info hj
        obtain ⟨⟩ := i
        simp only at hd
        subst hd
        simp [hi', hj'] at h ⊢
        exact h
    | _ =>
      simp only [hd] at h
      obtain ⟨⟩ := i
      simp only at hd
      subst hd
      simp [hi']
      simpa using h

section
variable {P : Program} (w : World)
theorem run_underlying {t : TypeId} {d : TypeDesc} (h : (Cx.of P).desc t = some d) : (underlying t).run P w = .ok d w := by
  simp [underlying, Cx.desc_under h]
theorem run_typeInfo {t : TypeId} {i : TypeInfo} (h : (Cx.of P).ty.get t = some i) : (typeInfo t).run P w = .ok i w := by
  simp [typeInfo, Cx.info h]
theorem size_info {t : TypeId} {n : Nat} (h : (Cx.of P).size t = some n) : ∃ i, (Cx.of P).ty.get t = some i ∧ i.size = n := by
  unfold Cx.size at h
  cases hi : (Cx.of P).ty.get t with
  | none => simp [hi] at h
  | some i => simp [hi] at h; exact ⟨i, rfl, h⟩
theorem run_sizeOf {t : TypeId} {n : Nat} (h : (Cx.of P).size t = some n) : (sizeOf t).run P w = .ok n w := by
  obtain ⟨i, hi, rfl⟩ := size_info h
  simp [sizeOf, run_typeInfo w hi]
theorem run_zeroValue {t : TypeId} {v : Value} (h : (Cx.of P).zero t = some v) : (zeroValue t).run P w = .ok v w := by
  unfold Cx.zero at h
  cases hi : (Cx.of P).ty.get t with
  | none => simp [hi] at h
  | some i => simp [hi] at h; simp [zeroValue, run_typeInfo w hi, h]
theorem run_isAgg {t : TypeId} {b : Bool} (h : (Cx.of P).isAgg t = some b) : (isAgg t).run P w = .ok b w := by
  unfold Cx.isAgg at h
  cases hd : (Cx.of P).desc t with
  | none => simp [hd] at h
  | some d =>
    rw [hd] at h
    simp only [isAgg, Sem.run_bind, run_underlying w hd, Result.andThen_ok]
    cases d <;> simp at h <;> subst h <;> rfl
end

/-! ### single operations -/
section
variable {P : Program} (μ : Nat → Loc) (w : World)

theorem part_run {t : TypeId} {cs : List Value} {off : Nat} {v : Value} (h : partA (Cx.of P) t cs off = some v) :
    (part t (concA μ ⟨cs⟩) off).run P w = .ok (conc μ v) w := by
  unfold partA at h
  cases ha : (Cx.of P).isAgg t with
  | none => simp [ha] at h
  | some b =>
    cases hs : (Cx.of P).size t with
    | none => cases b <;> simp [ha, hs] at h
    | some n =>
      cases b with
      | true =>
        simp only [ha, hs] at h
        cases hd : dropCells off cs with
        | none => simp [hd] at h
        | some l =>
          simp only [hd] at h
          cases ht : takeCells n l with
          | none => simp [ht] at h
          | some r =>
            simp [ht] at h; subst h
            obtain ⟨_, rfl⟩ := dropCells_eq _ _ _ hd
            obtain ⟨_, rfl⟩ := takeCells_eq _ _ _ ht
            simp only [part, Sem.run_bind, run_isAgg w ha, Result.andThen_ok, if_true, run_sizeOf w hs, Sem.run_pure, concA_mk, conc_agg]
            congr 2
            congr 1
            apply Array.ext'
            simp
      | false =>
        simp only [ha, hs] at h
        simp only [part, Sem.run_bind, run_isAgg w ha, Result.andThen_ok, concA_mk]
        simp [h]

theorem binInt_run {op : BinOp} {t : TypeId} {k : IntKind} {x y : Int} {v : Value} (h : binInt op k x y = some v) :
    (binOp op t (.int k x) (.int k y)).run P w = .ok v w ∧ flat v = true := by
  cases op <;> simp [binInt] at h <;> subst h <;> simp [binOp, Op.intArith, Op.intCmp, flat]

theorem eqGuard_int (op : BinOp) (t : TypeId) (x y : Operand) (k k' : IntKind) (n m : Int) : (eqGuard op t x y (.int k n) (.int k' m)).run P w = .ok () w := by
  unfold eqGuard
  cases op <;> simp

theorem binOpA_run {op : BinOp} {t : TypeId} {a b v : Value} {x y : Operand} (h : binOpA (Cx.of P) op t a b x y = some v) :
    (do eqGuard op t x y (conc μ a) (conc μ b); binOp op t (conc μ a) (conc μ b) : Sem Value).run P w = .ok (conc μ v) w := by
  have gen : ∀ a b, (∀ k n k' m, a = .int k n → b = .int k' m → False) → binOpA (Cx.of P) op t a b x y = some v →
      (do eqGuard op t x y (conc μ a) (conc μ b); binOp op t (conc μ a) (conc μ b) : Sem Value).run P w = .ok (conc μ v) w := by
    intro a b hni h
    have h' : (match flat a && flat b with | true => quietFlat (Cx.of P).P (do eqGuard op t x y a b; binOp op t a b) | false => none) = some v := by
      unfold binOpA at h
      split at h
      · exact (hni _ _ _ _ rfl rfl).elim
      · exact h
    cases hf : flat a && flat b with
    | false => rw [hf] at h'; simp at h'
    | true =>
      rw [hf] at h'
      simp only [Bool.and_eq_true] at hf
      obtain ⟨h1, h2⟩ := quietFlat_run h' w
      rw [conc_flat μ a hf.1, conc_flat μ b hf.2, conc_flat μ v h2]
      exact h1
  by_cases hi : ∃ k n k' m, a = .int k n ∧ b = .int k' m
  · obtain ⟨k, n, k', m, rfl, rfl⟩ := hi
    simp only [conc_int, Sem.run_bind, eqGuard_int, Result.andThen_ok]
    have quietCase : quietFlat (Cx.of P).P (binOp op t (.int k n) (.int k' m)) = some v → (binOp op t (.int k n) (.int k' m)).run P w = .ok (conc μ v) w := fun h => by
      obtain ⟨h1, h2⟩ := quietFlat_run h w
      rw [conc_flat μ v h2]; exact h1
    have arith : (match decide (k = k') with | true => binInt op k n m | false => none) = some v → (binOp op t (.int k n) (.int k' m)).run P w = .ok (conc μ v) w := fun h => by
      by_cases hk : k = k'
      · subst hk
        simp at h
        obtain ⟨h1, h2⟩ := binInt_run (t := t) w h
        rw [conc_flat μ v h2]; exact h1
      · simp [hk] at h
    unfold binOpA at h
    cases op <;> simp only at h <;> first | exact arith h | exact quietCase h
  · exact gen a b (fun k n k' m ha hb => hi ⟨k, n, k', m, ha, hb⟩) h

theorem samePtr_run {t e : TypeId} {k : Nat} {a b : Addr} (hd : (Cx.of P).desc t = some (.pointer e)) (hs : (Cx.of P).size e = some (k + 1)) (hab : a.block = b.block) :
    (Op.equal t (.pointer (some (concAddr μ a))) (.pointer (some (concAddr μ b)))).run P w = .ok (Nat.beq a.off b.off) w := by
  show (Op.equalIn (9999 + 1) t _ _).run P w = _
  generalize 9999 = d
  have hbb : (concAddr μ a).block = (concAddr μ b).block := by simp [concAddr, hab]
  have hbeq : (concAddr μ a == concAddr μ b) = Nat.beq a.off b.off := by
    rw [Bool.eq_iff_iff, beq_iff_eq, Nat.beq_eq]
    simp [concAddr, hab]
  simp [Op.equalIn, run_underlying w hd, run_sizeOf w hs, sameAddr, hbb, hbeq]

theorem eqNilA_run {op : BinOp} {t : TypeId} {a b v : Value} (x y : Operand) (h : eqNilA (Cx.of P) op t a b = some v) :
    (do eqGuard op t x y (conc μ a) (conc μ b); binOp op t (conc μ a) (conc μ b) : Sem Value).run P w = .ok (conc μ v) w := by
  have fin : ∀ {a' b' : Value}, (eqGuard op t x y a' b').run P w = .ok () w →
      (∀ e, Op.equal t a' b' = e → binOp .eql t a' b' = (do pure (.bool (← e)) : Sem Value) ∧ binOp .neq t a' b' = (do pure (.bool (!(← e))) : Sem Value)) →
      (Op.equal t a' b').run P w = .ok false w → unlike op = some v → (do eqGuard op t x y a' b'; binOp op t a' b' : Sem Value).run P w = .ok (conc μ v) w := by
    intro a' b' hg hb he hu
    obtain ⟨h1, h2⟩ := hb _ rfl
    cases op <;> simp [unlike] at hu <;> subst hu
    · simp [Sem.run_bind, hg, h1, he]
    · simp [Sem.run_bind, hg, h2, he]
  unfold eqNilA at h
  cases hd : (Cx.of P).desc t with
  | none => rw [hd] at h; simp at h
  | some d =>
    rw [hd] at h
    have hu := run_underlying w hd
    cases d <;> simp only at h <;> (try (simp at h; done))
    case pointer e0 =>
      split at h <;> (try (simp at h; done))
      case h_3 a b =>
        split at h <;> (try (simp at h; done))
        rename_i hs hab
        have hq := samePtr_run (μ := μ) (w := w) hd hs (Nat.eq_of_beq_eq_true hab)
        have hg : (eqGuard op t x y (.pointer (some (concAddr μ a))) (.pointer (some (concAddr μ b)))).run P w = .ok () w := by cases op <;> simp [eqGuard]
        cases op <;> simp only at h <;> (try (simp at h; done)) <;> (simp at h; subst h)
        · show (do eqGuard _ t x y (conc μ (.pointer (some a))) (conc μ (.pointer (some b))); (do pure (.bool (← Op.equal t (conc μ (.pointer (some a))) (conc μ (.pointer (some b))))) : Sem Value) : Sem Value).run P w = _
          simp only [conc_ptr, Sem.run_bind, hg, Result.andThen_ok, hq, Sem.run_pure, conc_bool]
        · show (do eqGuard _ t x y (conc μ (.pointer (some a))) (conc μ (.pointer (some b))); (do pure (.bool (!(← Op.equal t (conc μ (.pointer (some a))) (conc μ (.pointer (some b)))))) : Sem Value) : Sem Value).run P w = _
          simp only [conc_ptr, Sem.run_bind, hg, Result.andThen_ok, hq, Sem.run_pure, conc_bool]
      all_goals
        simp only [conc_nilptr, conc_ptr]
        refine fin ?_ ?_ ?_ h
        · cases op <;> simp [eqGuard]
        · intro e he; subst he; exact ⟨rfl, rfl⟩
        · show (Op.equalIn (9999 + 1) t _ _).run P w = _
          generalize 9999 = d
          simp [Op.equalIn, hu]
    all_goals
      split at h <;> (try (simp at h; done))
      all_goals
        simp only [conc_nilslice, conc_slice, conc_map, conc_nilmap, conc_nilFunc, conc_func, conc_nilIface, conc_iface]
        refine fin ?_ ?_ ?_ h
        · cases op <;> simp [eqGuard]
        · intro e he; subst he; exact ⟨rfl, rfl⟩
        · show (Op.equalIn (9999 + 1) t _ _).run P w = _
          generalize 9999 = d
          simp [Op.equalIn, hu]

/-! ### operands -/
theorem evs_map {cx : Cx} {tm : T Value} {ρ : Operand → Value} (hρ : ∀ x v, ev cx tm x = some v → ρ x = conc μ v) :
    ∀ {l : List Operand} {vs : List Value}, evs cx tm l = some vs → l.map ρ = vs.map (conc μ) := by
  intro l
  induction l with
  | nil => intro vs h; simp [evs] at h; subst h; rfl
  | cons x l ih =>
    intro vs h
    simp only [evs] at h
    cases hx : ev cx tm x with
    | none => simp [hx] at h
    | some v =>
      cases hl : evs cx tm l with
      | none => simp [hx, hl] at h
      | some r =>
        simp [hx, hl] at h; subst h
        simp [hρ x v hx, ih hl]
theorem evParts_map {cx : Cx} {tm : T Value} {ρ : Operand → Value} (hρ : ∀ x v, ev cx tm x = some v → ρ x = conc μ v) :
    ∀ {l : List (Nat × Operand)} {ps : List (Nat × Value)}, evParts cx tm l = some ps → l.map (fun (i, x) => (i, ρ x)) = ps.map fun (i, v) => (i, conc μ v) := by
  intro l
  induction l with
  | nil => intro vs h; simp [evParts] at h; subst h; rfl
  | cons x l ih =>
    intro vs h
    obtain ⟨i, x⟩ := x
    simp only [evParts] at h
    cases hx : ev cx tm x with
    | none => simp [hx] at h
    | some v =>
      cases hl : evParts cx tm l with
      | none => simp [hx, hl] at h
      | some r =>
        simp [hx, hl] at h; subst h
        simp [hρ x v hx]
        exact ih hl

/-! ### building -/
theorem foldl_put (vs : List Value) : ∀ (off k : Nat) (cs : Array Value), off + k + vs.length ≤ cs.size →
    ((vs.zipIdx k).foldl (fun cs (c, j) => cs.setIfInBounds (off + j) c) cs).toList = cs.toList.take (off + k) ++ vs ++ cs.toList.drop (off + k + vs.length) := by
  induction vs with
  | nil => intro off k cs _; simp
  | cons v vs ih =>
    intro off k cs h
    simp only [List.length_cons] at h
    rw [List.zipIdx_cons, List.foldl_cons]
    rw [ih off (k + 1) _ (by simp; omega)]
    simp only [Array.toList_setIfInBounds, List.length_cons]
    have hlt : off + k < cs.toList.length := by simp; omega
    rw [show off + (k + 1) = off + k + 1 by omega, List.take_succ_eq_append_getElem (by simpa using hlt)]
    rw [List.take_set, List.drop_set]
    simp only [List.getElem_set_self]
    rw [if_pos (by omega)]
    rw [List.set_eq_of_length_le (by simp; omega)]
    simp [Nat.add_assoc, Nat.add_comm 1]

theorem fill_run (μ : Nat → Loc) (place : Nat → Option (Nat × Nat)) : ∀ (ps : List (Nat × Value)) (cells r : List Value),
    fillA place cells ps = some r → Instr.fill place ⟨cells.map (conc μ)⟩ (ps.map fun (i, v) => (i, conc μ v)) = some ⟨r.map (conc μ)⟩ := by
  intro ps
  induction ps with
  | nil => intro cells r h; simp [fillA] at h; subst h; simp [Instr.fill]
  | cons p ps ih =>
    obtain ⟨i, v⟩ := p
    intro cells r h
    simp only [fillA] at h
    cases hp : place i with
    | none => simp [hp] at h
    | some q =>
      obtain ⟨off, size⟩ := q
      simp only [hp] at h
      cases hs : Nat.beq v.cells.size size with
      | false => simp [hs] at h
      | true =>
        have hs' : v.cells.size = size := Nat.eq_of_beq_eq_true hs
        simp only [hs] at h
        cases hc : putCells off v.cells.toList cells with
        | none => simp [hc] at h
        | some l =>
          simp only [hc] at h
          obtain ⟨h1, rfl⟩ := putCells_eq _ _ _ _ hc
          have hsz : (conc μ v).cells.size = size := by rw [← hs', conc_cells, concA_eq]; simp
          simp only [List.map_cons, Instr.fill, hp]
          simp only [Array.length_toList] at h1
          rw [if_neg (by rw [hsz]; simp; omega)]
          rw [← ih _ _ h]
          congr 1
          apply Array.ext'
          rw [← Array.foldl_toList, Array.toList_zipIdx]
          have := foldl_put (conc μ v).cells.toList off 0 ⟨cells.map (conc μ)⟩ (by simp [hsz]; omega)
          simp only [Nat.add_zero] at this
          rw [this, conc_cells_list]
          simp [List.map_take, List.map_drop]

end
end Go.Ai

/-! Operations that neither read nor change memory: the rest, and all of them in one. -/
namespace Go.Ai
open Go

section
variable {P : Program} (μ : Nat → Loc) (w : World)

theorem sizes_run : ∀ {l : List Field} {r : List (Nat × Nat)}, sizes (Cx.of P) l = some r →
    (l.mapM fun f => (Prod.mk f.offset <$> sizeOf f.type : Sem (Nat × Nat))).run P w = .ok r w := by
  intro l
  induction l with
  | nil => intro r h; simp [sizes] at h; subst h; rfl
  | cons f l ih =>
    intro r h
    simp only [sizes] at h
    cases hs : (Cx.of P).size f.type with
    | none => simp [hs] at h
    | some n =>
      cases hl : sizes (Cx.of P) l with
      | none => simp [hs, hl] at h
      | some q =>
        simp [hs, hl] at h; subst h
        rw [List.mapM_cons]
        simp [Sem.run_bind, run_sizeOf w hs, ih hl]

def flatCells {P : Program} : Prop := ∀ t v, (Cx.of P).zero t = some v → flat v = true

theorem build_run {t : TypeId} {ps : List (Nat × Value)} {v : Value} (h : buildA (Cx.of P) t ps = some v) :
    (Instr.build t (ps.map fun (i, v) => (i, conc μ v)).toArray).run P w = .ok (conc μ v) w := by
  unfold buildA at h
  cases hz : (Cx.of P).zero t with
  | none => simp [hz] at h
  | some z =>
    cases hd : (Cx.of P).desc t with
    | none => simp [hz, hd] at h
    | some d =>
      simp only [hz, hd] at h
      cases hzf : flat z with
      | false => simp [hzf] at h
      | true =>
      simp only [hzf] at h
      have hzc : z.cells = ⟨z.cells.toList.map (conc μ)⟩ := by
        have := conc_cells_list μ z
        rw [conc_flat μ z hzf] at this
        rw [← this]
      cases d with
      | struct fields =>
        simp only at h
        cases hs : sizes (Cx.of P) fields.toList with
        | none => simp [hs] at h
        | some pl =>
          simp only [hs] at h
          cases hf : fillA (pl[·]?) z.cells.toList ps with
          | none => simp [hf] at h
          | some l =>
            simp [hf] at h; subst h
            have hfill := fill_run μ _ _ _ _ hf
            rw [← hzc] at hfill
            have hm : (fields.mapM fun f => (Prod.mk f.offset <$> sizeOf f.type : Sem (Nat × Nat))).run P w = .ok pl.toArray w := by
              rw [Array.mapM_eq_mapM_toList]
              simp [sizes_run w hs]
            have hfill' : Instr.fill (fun x => pl.toArray[x]?) z.cells (ps.map fun (i, v) => (i, conc μ v)) = some ⟨l.map (conc μ)⟩ := by
              rw [← hfill]; congr 1; funext x; simp
            simp only [Instr.build, Sem.run_bind, run_zeroValue w hz, Result.andThen_ok, run_underlying w hd, bind_pure_comp, hm]
            simp only [hfill', Sem.run_pure, conc_agg, concA_mk]
      | array m e =>
        simp only at h
        cases hs : (Cx.of P).size e with
        | none => simp [hs] at h
        | some n =>
          simp only [hs] at h
          cases hf : fillA (fun i => some (i * n, n)) z.cells.toList ps with
          | none => simp [hf] at h
          | some l =>
            simp [hf] at h; subst h
            have hfill := fill_run μ _ _ _ _ hf
            rw [← hzc] at hfill
            simp only [Instr.build, Sem.run_bind, run_zeroValue w hz, Result.andThen_ok, run_underlying w hd, run_sizeOf w hs]
            simp [hfill, concA_mk]
      | _ => simp at h

theorem bound_run {v : Value} {y n : Nat} (code : BoundsCode) (h : bound v y = some n) : (Instr.sliceBound (conc μ v) y code).run P w = .ok n w ∧ n ≤ y ∧ conc μ v = v := by
  cases v with
  | int k i =>
    simp only [bound] at h
    by_cases hb : 0 ≤ i ∧ i ≤ (y : Int)
    · simp [hb] at h; subst h
      refine ⟨?_, by omega, by simp⟩
      simp [Instr.sliceBound, asIntOf, hb]
    · simp [hb] at h
  | _ => simp [bound] at h

theorem bound_mono {v : Value} {y z n : Nat} (hyz : y ≤ z) (h : bound v y = some n) : bound v z = some n := by
  cases v with
  | int k i =>
    simp only [bound] at h ⊢
    by_cases hb : 0 ≤ i ∧ i ≤ (y : Int)
    · simp [hb] at h
      have : i ≤ (z : Int) := by omega
      simp [hb.1, this, h]
    · simp [hb] at h
  | _ => simp [bound] at h

theorem sliceBounds_run {isSlice : Bool} {len cap top : Nat} {lo hi : Option Value} {l h : Nat} (htop : top ≤ cap)
    (hh : boundOr len top hi = some h) (hl : boundOr 0 h lo = some l) :
    (Instr.sliceBounds isSlice len cap (lo.map (conc μ)) (hi.map (conc μ)) none).run P w = .ok (l, h, cap) w ∧ l ≤ h := by
  have hh' : (∃ v, hi = some v ∧ ∀ code, (Instr.sliceBound (conc μ v) cap code).run P w = .ok h w) ∨ (hi = none ∧ h = len) := by
    cases hi with
    | none => simp [boundOr] at hh; exact .inr ⟨rfl, hh.symm⟩
    | some v =>
      simp only [boundOr] at hh
      exact .inl ⟨v, rfl, fun code => (bound_run (P := P) μ w code (bound_mono htop hh)).1⟩
  have hl' : (∃ v, lo = some v ∧ ∀ code, (Instr.sliceBound (conc μ v) h code).run P w = .ok l w) ∨ (lo = none ∧ l = 0) := by
    cases lo with
    | none => simp [boundOr] at hl; exact .inr ⟨rfl, hl.symm⟩
    | some v =>
      simp only [boundOr] at hl
      exact .inl ⟨v, rfl, fun code => (bound_run (P := P) μ w code hl).1⟩
  refine ⟨?_, ?_⟩
  · rcases hh' with ⟨v, rfl, hv⟩ | ⟨rfl, rfl⟩ <;> rcases hl' with ⟨u, rfl, hu⟩ | ⟨rfl, rfl⟩ <;>
      simp [Instr.sliceBounds, *]
  · cases lo with
    | none => simp [boundOr] at hl; omega
    | some v => simp only [boundOr] at hl; exact (bound_run (P := P) μ w .sliceB hl).2.1

theorem isOpen_iff (c : Nat) : isOpen c = true ↔ 18446744073709551616 ≤ c := by
  unfold isOpen; exact Iff.of_eq Nat.ble_eq

theorem sliceP_run {t : TypeId} {x v : Value} {lo hi : Option Value} (h : sliceP (Cx.of P) t x lo hi = some v) :
    (Instr.sliceAt t (conc μ x) (lo.map (conc μ)) (hi.map (conc μ)) none).run P w = .ok (conc μ v) w := by
  cases x with
  | string s =>
    simp only [sliceP] at h
    cases hd : (Cx.of P).desc t with
    | none => rw [hd] at h; simp at h
    | some d =>
      rw [hd] at h
      cases d <;> simp only at h <;> (try (simp at h; done))
      cases hh : boundOr s.size s.size hi with
      | none => rw [hh] at h; simp at h
      | some hb =>
        rw [hh] at h
        simp only at h
        cases hl : boundOr 0 hb lo with
        | none => rw [hl] at h; simp at h
        | some l =>
          rw [hl] at h
          simp at h; subst h
          have hu := run_underlying w hd
          simp only [Instr.sliceAt, Sem.run_bind, hu, Result.andThen_ok, conc_string, Instr.slice]
          simp [(sliceBounds_run (P := P) (isSlice := false) μ w (Nat.le_refl _) hh hl).1]
  | pointer a =>
    cases a with
    | none => simp [sliceP] at h
    | some a =>
      simp only [sliceP] at h
      cases hd : (Cx.of P).desc t with
      | none => rw [hd] at h; simp at h
      | some d =>
        rw [hd] at h
        cases d <;> simp only at h <;> (try (simp at h; done))
        rename_i m e
        cases hs : (Cx.of P).size e with
        | none => rw [hs] at h; simp at h
        | some n =>
          rw [hs] at h
          simp only at h
          cases hg : a.spot.isNone && Nat.ble m 70368744177664 with
          | false => rw [hg] at h; simp at h
          | true =>
          rw [hg] at h
          simp only at h
          simp only [Bool.and_eq_true, Option.isNone_iff_eq_none] at hg
          have hm : m ≤ 70368744177664 := Nat.le_of_ble_eq_true hg.2
          cases hh : boundOr m m hi with
          | none => rw [hh] at h; simp at h
          | some hb =>
            rw [hh] at h
            simp only at h
            cases hl : boundOr 0 hb lo with
            | none => rw [hl] at h; simp at h
            | some l =>
              rw [hl] at h
              simp only [Option.some.injEq] at h; subst h
              have hu := run_underlying w hd
              simp only [Instr.sliceAt, Sem.run_bind, hu, Result.andThen_ok, conc_ptr, Instr.sureAddr, Sem.run_pure,
                (sliceBounds_run (P := P) (isSlice := false) μ w (Nat.le_refl _) hh hl).1, run_sizeOf w hs, conc_slice]
              have hc : ∀ id, concCap μ id (m - l) = m - l := by
                intro id
                unfold concCap
                rw [if_neg]
                rw [isOpen_iff]; omega
              simp only [hc]
              by_cases hml : m = l
              · subst hml
                simp [concEnd_none μ hg.1]
              · have hb : Nat.beq m l = false := by
                  cases hq : Nat.beq m l
                  · rfl
                  · exact absurd (Nat.eq_of_beq_eq_true hq) hml
                have hsp : (a.add (l * n)).spot = none := by unfold Addr.add; split <;> simp [hg.1]
                simp [hb, hml, concEnd_none μ hsp, concAddr_add]
  | _ => simp [sliceP] at h

theorem indexAddr_run {t : TypeId} {x i v : Value} (h : indexAddrA (Cx.of P) t x i = some v) :
    (Instr.indexAt t (conc μ x) (conc μ i)).run P w = .ok (conc μ v) w := by
  unfold indexAddrA at h
  cases i with
  | int kk k =>
    simp only at h
    cases hd : (Cx.of P).desc t with
    | none => rw [hd] at h; split at h <;> simp_all
    | some d =>
      rw [hd] at h
      have hu := run_underlying w hd
      split at h <;> rename_i heq
      · rename_i a m e
        injection heq with heq; subst heq
        cases hs : (Cx.of P).size e with
        | none => rw [hs] at h; simp at h
        | some n =>
          rw [hs] at h
          simp only at h
          by_cases hk : 0 ≤ k ∧ k < (m : Int)
          · simp [hk] at h; subst h
            simp [Instr.indexAt, asIntOf, hu, Instr.sureAddr, hk, run_sizeOf w hs, concAddr_add]
          · simp [hk] at h
      · rename_i a len cap e
        injection heq with heq; subst heq
        cases hs : (Cx.of P).size e with
        | none => rw [hs] at h; simp at h
        | some n =>
          rw [hs] at h
          simp only at h
          cases hg : a.spot.isNone && decide (0 ≤ k ∧ k < (len : Int)) with
          | false => rw [hg] at h; simp at h
          | true =>
            rw [hg] at h
            simp only [Option.some.injEq] at h; subst h
            simp only [Bool.and_eq_true, Option.isNone_iff_eq_none, decide_eq_true_eq] at hg
            simp [Instr.indexAt, asIntOf, hu, hg.2, run_sizeOf w hs, concAddr_add, concEnd_none μ hg.1]
      · simp at h
  | _ => simp at h

theorem index_run {t : TypeId} {x i v : Value} (h : indexA (Cx.of P) t x i = some v) :
    (Instr.index t (conc μ x) (conc μ i)).run P w = .ok (conc μ v) w := by
  unfold indexA at h
  cases i with
  | int kk k =>
    simp only at h
    cases hd : (Cx.of P).desc t with
    | none => rw [hd] at h; split at h <;> simp_all
    | some d =>
      rw [hd] at h
      have hu := run_underlying w hd
      split at h <;> rename_i heq
      · rename_i s
        injection heq with heq; subst heq
        by_cases hk : 0 ≤ k
        · simp only [hk, decide_true] at h
          cases hb : s.data.toList[k.toNat]? with
          | none => rw [hb] at h; simp at h
          | some b =>
            rw [hb] at h
            simp at h; subst h
            have hb' : s[k.toNat]? = some b := by
              have hlt : k.toNat < s.data.toList.length := (List.getElem?_eq_some_iff.1 hb).1
              have hlt' : k.toNat < s.size := by simpa using hlt
              rw [getElem?_pos s k.toNat hlt']
              obtain ⟨h1, h2⟩ := List.getElem?_eq_some_iff.1 hb
              rw [← h2]; rfl
            simp [Instr.index, asIntOf, hu, hk, hb']
        · simp [hk] at h
      · rename_i cs m e
        injection heq with heq; subst heq
        cases hs : (Cx.of P).size e with
        | none => rw [hs] at h; simp at h
        | some n =>
          rw [hs] at h
          simp only at h
          by_cases hk : 0 ≤ k ∧ k < (m : Int)
          · simp only [hk, and_self, decide_true] at h
            have := part_run (P := P) μ w h
            simp [Instr.index, asIntOf, hu, hk, run_sizeOf w hs, this]
          · simp [hk] at h
      · simp at h
  | _ => simp at h

end
end Go.Ai

/-! Operations that neither read nor change memory: all of them in one. -/
namespace Go.Ai
open Go

section
variable {P : Program} (μ : Nat → Loc) (w : World)

theorem failA_run {t : TypeId} {ok : Bool} {v : Value} (h : failA (Cx.of P) t ok = some v) :
    ok = true ∧ ∃ z, v = .tuple #[z, .bool false] ∧ flat z = true ∧ (zeroValue t).run P w = .ok z w := by
  unfold failA at h
  cases ok with
  | false => simp at h
  | true =>
    cases hz : (Cx.of P).zero t with
    | none => simp [hz] at h
    | some z =>
      cases hf : flat z with
      | false => simp [hz, hf] at h
      | true => simp [hz, hf] at h; subst h; exact ⟨rfl, z, rfl, hf, run_zeroValue w hz⟩

theorem typeAssert_run {x v : Value} (xt : TypeId) {t : TypeId} {ok : Bool} (h : typeAssertA (Cx.of P) x t ok = some v) :
    (Instr.typeAssert (conc μ x) xt t ok).run P w = .ok (conc μ v) w := by
  unfold typeAssertA at h
  cases hd : (Cx.of P).desc t with
  | none => rw [hd] at h; simp at h
  | some d =>
    rw [hd] at h
    have hu := run_underlying w hd
    cases d
    case interface ms => simp at h
    all_goals
      simp only at h
      cases x with
      | iface u y =>
        simp only at h
        cases hb : Nat.beq u t with
        | true =>
          have e : u = t := Nat.eq_of_beq_eq_true hb
          subst e
          rw [hb] at h
          simp only [Option.some.injEq] at h; subst h
          simp only [Instr.typeAssert, Sem.run_bind, hu, Result.andThen_ok, conc_iface]
          cases ok <;> simp [concA_eq]
        | false =>
          have e : u ≠ t := fun e => by subst e; simp at hb
          rw [hb] at h
          simp only at h
          obtain ⟨rfl, z, rfl, hf, hz⟩ := failA_run (P := P) w h
          simp only [Instr.typeAssert, Sem.run_bind, hu, Result.andThen_ok, conc_iface]
          simp [e, hz, concA_eq, conc_flat μ z hf]
      | nilIface =>
        simp only at h
        obtain ⟨rfl, z, rfl, hf, hz⟩ := failA_run (P := P) w h
        simp only [Instr.typeAssert, Sem.run_bind, hu, Result.andThen_ok, conc_nilIface]
        simp [hz, concA_eq, conc_flat μ z hf]
      | _ => simp at h

theorem opt_map {cx : Cx} {tm : T Value} {ρ : Operand → Value} (hρ : ∀ x v, ev cx tm x = some v → ρ x = conc μ v)
    {o : Option Operand} {r : Option Value} (h : opt cx tm o = some r) : o.map ρ = r.map (conc μ) := by
  cases o with
  | none => simp [opt] at h; subst h; rfl
  | some x =>
    simp only [opt] at h
    cases hx : ev cx tm x with
    | none => simp [hx] at h
    | some v => simp [hx] at h; subst h; simp [hρ x v hx]

theorem convert_int_run {s d : TypeId} {k k' q : IntKind} {n : Int} (hs : (Cx.of P).desc s = some (.int q)) (hd : (Cx.of P).desc d = some (.int k')) :
    (convert s d (.int k n)).run P w = .ok (.int k' (k'.wrap n)) w := by
  simp [convert, run_underlying w hs, run_underlying w hd, Conv.intToInt]

theorem fieldAddr_run {t : TypeId} {a : Addr} {f : Nat} {fields : Array Field} {fd : Field} {n : Nat} (hd : (Cx.of P).desc t = some (.struct fields))
    (hf : fields[f]? = some fd) (hs : (Cx.of P).size fd.type = some (n + 1)) :
    (Instr.fieldAt t (.pointer (some (concAddr μ a))) f).run P w = .ok (.pointer (some (concAddr μ (a.add fd.offset)))) w := by
  simp [Instr.fieldAt, run_underlying w hd, hf, Instr.sureAddr, fieldPlace, run_sizeOf w hs, concAddr_add]

theorem field_run {t : TypeId} {cs : Array Value} {f : Nat} {fields : Array Field} {fd : Field} {v : Value} (hd : (Cx.of P).desc t = some (.struct fields))
    (hf : fields[f]? = some fd) (h : partA (Cx.of P) fd.type cs.toList fd.offset = some v) :
    (Instr.field t (.agg (concA μ cs)) f).run P w = .ok (conc μ v) w := by
  have := part_run (P := P) μ w h
  simp [Instr.field, run_underlying w hd, hf, asAgg]
  exact this

theorem pureCall_run {tm : T Value} {ρ : Operand → Value} (hρ : ∀ x v, ev (Cx.of P) tm x = some v → ρ x = conc μ v)
    {c : Call} {T : TypeId} {v : Value} (h : pureCall (Cx.of P) tm c = some v) :
    (do let d ← resolve ρ c T; invoke d.target d.args : Sem Next).run P w = .ok (.value (conc μ v)) w := by
  unfold pureCall at h
  cases hc : c.callee with
  | value f => rw [hc] at h; simp at h
  | invoke r m => rw [hc] at h; simp at h
  | builtin b =>
    rw [hc] at h
    simp only at h
    cases ha : evs (Cx.of P) tm c.args.toList with
    | none => rw [ha] at h; simp at h
    | some as =>
      rw [ha] at h
      have e := evs_map μ hρ ha
      have e' : c.args.map ρ = (as.map (conc μ)).toArray := by rw [← e]; apply Array.ext'; simp
      have val : ∀ {s : Sem Value} {r : Value}, s.run P w = .ok r w → (do pure (.value (← s)) : Sem Next).run P w = .ok (.value r) w := by
        intro s r hs; simp [hs]
      simp only [resolve, hc, Sem.run_bind, Sem.run_pure, Result.andThen_ok, invoke, builtin, e']
      cases b <;> simp only at h <;> (try (simp at h; done)) <;> simp only
      case len =>
        refine val ?_
        split at h <;> (try (simp at h; done))
        rename_i x
        unfold lenA at h
        split at h <;> (try (simp at h; done))
        rename_i t ht
        have ht' : c.argTypes[0]? = some t := by rw [← Array.getElem?_toList, ht]; rfl
        cases hd : (Cx.of P).desc t with
        | none => rw [hd] at h; simp at h
        | some d =>
          rw [hd] at h
          have hu := run_underlying w hd
          simp only [Builtin.len_, ht', List.map_cons, List.map_nil]
          split at h <;> rename_i heq <;> (try (simp at h; done)) <;> simp only [Option.some.injEq] at heq <;> subst heq
          · simp at h; subst h; simp [hu]
          · rename_i o n cc
            simp at h; subst h
            cases o <;> simp [hu]
          · simp at h; subst h; simp [hu]
          · rename_i q
            cases hde : (Cx.of P).desc q with
            | none => rw [hde] at h; simp at h
            | some de =>
              rw [hde] at h
              have hue := run_underlying w hde
              cases de <;> simp at h <;> subst h
              simp [hu, hue]
          · simp at h; subst h; simp [hu]
      case cap =>
        refine val ?_
        split at h <;> (try (simp at h; done))
        rename_i o q n t ht
        have ht' : c.argTypes[0]? = some t := by rw [← Array.getElem?_toList, ht]; rfl
        split at h <;> (try (simp at h; done))
        rename_i e hd hop
        have hu := run_underlying w hd
        simp at h; subst h
        have hcc : ∀ id, concCap μ id n = n := by intro id; simp [concCap, hop]
        cases o <;> simp [Builtin.cap_, ht', hu, hcc]
      case max =>
        refine val ?_
        split at h <;> (try (simp at h; done))
        simp at h; subst h
        simp [Builtin.max_, Builtin.max2]
      case min =>
        refine val ?_
        split at h <;> (try (simp at h; done))
        simp at h; subst h
        simp [Builtin.min_, Builtin.min2]

end

section
variable {P : Program} {μ : Nat → Loc}

theorem pureOp_sound {tm : T Value} {ρ : Operand → Value} (hρ : ∀ x v, ev (Cx.of P) tm x = some v → ρ x = conc μ v)
    {o : Oper} {v : Value} (h : pureOp (Cx.of P) tm o.op = some v) (w : World) : (execOp ρ o).run P w = .ok (.value (conc μ v)) w := by
  have val : ∀ {s : Sem Value} {r : Value}, s.run P w = .ok r w → (do pure (.value (← s)) : Sem Next).run P w = .ok (.value r) w := by
    intro s r hs; simp [hs]
  unfold execOp
  cases hop : o.op <;> rw [hop] at h <;> simp only [pureOp] at h <;> (try (simp at h; done)) <;> simp only
  case move x => simp [hρ x v h]
  case assign x => simp [hρ x v h]
  case pick c a b =>
    cases hc : ev (Cx.of P) tm c with
    | none => rw [hc] at h; simp at h
    | some cv =>
      rw [hc] at h
      cases cv <;> (try (simp at h; done))
      rename_i b'
      cases b' <;> simp only at h <;> simp [hρ c _ hc, asBool, hρ _ v h]
  case nilCheck x =>
    cases hx : ev (Cx.of P) tm x with
    | none => rw [hx] at h; simp at h
    | some xv =>
      rw [hx] at h
      have := hρ x xv hx
      split at h <;> rename_i heq <;> (try (simp at h; done)) <;>
        (simp only [Option.some.injEq] at heq h; subst heq; subst h; rw [this]; simp)
  case binOp op t x y yt =>
    cases hx : ev (Cx.of P) tm x with
    | none => rw [hx] at h; simp at h
    | some a =>
      rw [hx] at h
      simp only at h
      cases hy : ev (Cx.of P) tm y with
      | none => rw [hy] at h; simp at h
      | some b =>
        rw [hy] at h
        simp only at h
        refine val ?_
        rw [hρ x a hx, hρ y b hy]
        cases hb : binOpA (Cx.of P) op t a b x y with
        | none => rw [hb] at h; exact eqNilA_run μ w x y h
        | some r => rw [hb] at h; simp at h; subst h; exact binOpA_run μ w hb
  case unOp op t x =>
    refine val ?_
    cases hx : ev (Cx.of P) tm x with
    | none => rw [hx] at h; simp at h
    | some a =>
      rw [hx] at h
      rw [hρ x a hx]
      have gen : (match flat a with | true => quietFlat (Cx.of P).P (Op.unary op a) | false => none) = some v → (Op.unary op (conc μ a)).run P w = .ok (conc μ v) w := by
        intro h
        cases hf : flat a with
        | false => rw [hf] at h; simp at h
        | true =>
          rw [hf] at h
          obtain ⟨h1, h2⟩ := quietFlat_run h w
          rw [conc_flat μ a hf, conc_flat μ v h2]; exact h1
      cases a <;> simp only at h <;> first
        | exact gen h
        | (cases op <;> simp at h; subst h; simp [Op.unary])
  case convert s d x =>
    refine val ?_
    cases hx : ev (Cx.of P) tm x with
    | none => rw [hx] at h; simp at h
    | some a =>
      rw [hx] at h
      rw [hρ x a hx]
      have gen : (match flat a with | true => quietFlat (Cx.of P).P (convert s d a) | false => none) = some v → (convert s d (conc μ a)).run P w = .ok (conc μ v) w := by
        intro h
        cases hf : flat a with
        | false => rw [hf] at h; simp at h
        | true =>
          rw [hf] at h
          obtain ⟨h1, h2⟩ := quietFlat_run h w
          rw [conc_flat μ a hf, conc_flat μ v h2]; exact h1
      cases a <;> simp only at h <;> (try exact gen h)
      case int k n =>
        split at h
        · rename_i k' q hd hs
          simp at h; subst h
          simpa using convert_int_run w hs hd
        · obtain ⟨h1, h2⟩ := quietFlat_run h w
          rw [conc_flat μ v h2, conc_int]; exact h1
      case string b =>
        split at h
        · rename_i hd hs
          simp at h; subst h
          simp [convert, run_underlying w hs, run_underlying w hd]
        · simp at h
  case makeInterface t x =>
    refine val ?_
    cases hd : (Cx.of P).desc t with
    | none => rw [hd] at h; simp at h
    | some d =>
      rw [hd] at h
      have hu := run_underlying w hd
      cases hx : ev (Cx.of P) tm x with
      | none => rw [hx] at h; cases d <;> simp at h
      | some a =>
        rw [hx] at h
        rw [hρ x a hx]
        cases d <;> simp at h <;> subst h <;> simp [Instr.makeInterface, hu]
  case makeFunc fn first cap =>
    refine val ?_
    cases ha : evs (Cx.of P) tm first.toList with
    | none => rw [ha] at h; simp at h
    | some a =>
      cases hb : evs (Cx.of P) tm cap.toList with
      | none => rw [ha, hb] at h; simp at h
      | some b =>
        rw [ha, hb] at h
        have e1 := evs_map μ hρ ha
        have e2 := evs_map μ hρ hb
        have e1' : first.map ρ = concA μ ⟨a⟩ := by rw [concA_mk, ← e1]; apply Array.ext'; simp
        have e2' : cap.map ρ = concA μ ⟨b⟩ := by rw [concA_mk, ← e2]; apply Array.ext'; simp
        cases fn <;> simp at h <;> subst h <;> simp [Instr.makeFunc, e1', e2']
  case field t x f =>
    refine val ?_
    cases hx : ev (Cx.of P) tm x with
    | none => rw [hx] at h; simp at h
    | some a =>
      rw [hx] at h
      rw [hρ x a hx]
      cases a <;> simp only at h <;> (try (simp at h; done))
      rename_i cs
      cases hd : (Cx.of P).desc t with
      | none => rw [hd] at h; simp at h
      | some d =>
        rw [hd] at h
        cases d <;> simp only at h <;> (try (simp at h; done))
        rename_i fields
        cases hf : fields[f]? with
        | none => rw [hf] at h; simp at h
        | some fd =>
          rw [hf] at h
          simp only [conc_agg]
          exact field_run μ w hd hf h
  case index t x i =>
    refine val ?_
    cases hx : ev (Cx.of P) tm x with
    | none => rw [hx] at h; simp at h
    | some a =>
      rw [hx] at h
      simp only at h
      cases hi : ev (Cx.of P) tm i with
      | none => rw [hi] at h; simp at h
      | some b =>
        rw [hi] at h
        rw [hρ x a hx, hρ i b hi]
        exact index_run μ w h
  case extract x i =>
    refine val ?_
    cases hx : ev (Cx.of P) tm x with
    | none => rw [hx] at h; simp at h
    | some a =>
      rw [hx] at h
      rw [hρ x a hx]
      cases a <;> simp only at h <;> (try (simp at h; done))
      rename_i vs
      have h' : vs[i]? = some v := by simpa using h
      simp [Instr.extract, concA_eq, h']
  case fieldAddr t x f =>
    refine val ?_
    cases hx : ev (Cx.of P) tm x with
    | none => rw [hx] at h; simp at h
    | some a =>
      rw [hx] at h
      rw [hρ x a hx]
      cases a <;> (try (simp at h; done))
      rename_i oa
      cases oa <;> simp only at h <;> (try (simp at h; done))
      rename_i a
      cases hd : (Cx.of P).desc t with
      | none => rw [hd] at h; simp at h
      | some d =>
        rw [hd] at h
        cases d <;> simp only at h <;> (try (simp at h; done))
        rename_i fields
        cases hf : fields[f]? with
        | none => rw [hf] at h; simp at h
        | some fd =>
          rw [hf] at h
          simp only at h
          cases hs : (Cx.of P).size fd.type with
          | none => rw [hs] at h; simp at h
          | some n =>
            rw [hs] at h
            cases n with
            | zero => simp at h
            | succ n =>
              simp at h; subst h
              simp only [conc_ptr]
              exact fieldAddr_run μ w hd hf hs
  case indexAddr t x i =>
    refine val ?_
    cases hx : ev (Cx.of P) tm x with
    | none => rw [hx] at h; simp at h
    | some a =>
      rw [hx] at h
      simp only at h
      cases hi : ev (Cx.of P) tm i with
      | none => rw [hi] at h; simp at h
      | some b =>
        rw [hi] at h
        rw [hρ x a hx, hρ i b hi]
        exact indexAddr_run μ w h
  case slice t x lo hi mx =>
    refine val ?_
    cases mx with
    | some m => simp at h
    | none =>
      simp only at h
      cases hx : ev (Cx.of P) tm x with
      | none => rw [hx] at h; simp at h
      | some a =>
        rw [hx] at h
        simp only at h
        cases hl : opt (Cx.of P) tm lo with
        | none => rw [hl] at h; simp at h
        | some l =>
          rw [hl] at h
          simp only at h
          cases hh : opt (Cx.of P) tm hi with
          | none => rw [hh] at h; simp at h
          | some b =>
            rw [hh] at h
            rw [hρ x a hx, opt_map μ hρ hl, opt_map μ hρ hh]
            exact sliceP_run μ w h
  case typeAssert x xt t ok =>
    refine val ?_
    cases hx : ev (Cx.of P) tm x with
    | none => rw [hx] at h; simp at h
    | some a =>
      rw [hx] at h
      rw [hρ x a hx]
      exact typeAssert_run μ w xt h
  case build t parts =>
    refine val ?_
    cases hp : evParts (Cx.of P) tm parts.toList with
    | none => rw [hp] at h; simp at h
    | some ps =>
      rw [hp] at h
      have e := evParts_map μ hρ hp
      have e' : parts.map (fun (i, x) => (i, ρ x)) = (ps.map fun (i, v) => (i, conc μ v)).toArray := by
        rw [← e]; apply Array.ext'; simp
      rw [e']
      exact build_run μ w h
  case call c => exact pureCall_run μ w hρ h

end
end Go.Ai

/-! When does a world stand for an abstract heap, and what a step keeps. -/
namespace Go.Ai
open Go

def Ext (m : Nat → Option Loc) (μ : Nat → Loc) : Prop := ∀ i l, m i = some l → μ i = l
def some0 (m : Nat → Option Loc) : Nat → Loc := fun i => (m i).getD ⟨0, 0, 0, .nilFunc⟩
theorem some0_ext (m : Nat → Option Loc) : Ext m (some0 m) := fun i l h => by simp [some0, h]
theorem Ext.mono {m m' : Nat → Option Loc} {μ : Nat → Loc} (h : Ext m' μ) (hm : ∀ i l, m i = some l → m' i = some l) : Ext m μ :=
  fun i l hi => h i l (hm i l hi)

def AObj.isWr : AObj → Bool
  | .row _ _ _ w => w
  | .map _ _ w => w
  | .iterS _ _ => true
  | .iterM .. => true
  | .loopO .. => true

def jumpOf : Ex → Code
  | .normal => .skip
  | .exit id => .exit id
  | .ret => .ret
  | .goto l => .goto l

def concE (μ : Nat → Loc) (e : MapEntry) : MapEntry := { key := e.key, val := conc μ e.val, born := e.born }

def kvOf (e : MapEntry) : Value × Value := (e.key, e.val)

/-- (the order in a map is not told) -/
def ObjRep (cx : Cx) (μ : Nat → Loc) (w : World) (id : Nat) : AObj → Prop
  | .row e cs opn wr => ∃ cells e' fz, w.heap[(μ id).blk]? = some (.cells cells e' fz) ∧ (μ id).base + cs.length ≤ cells.size ∧
      (∀ j v, cs[j]? = some v → isCell v = true → cells[(μ id).base + j]? = some (conc μ v)) ∧
      (wr = true → ∀ k, k < cells.size → ¬ (fz.1 ≤ k ∧ k < fz.2)) ∧
      (opn = true → ∀ n, cx.size e = some n → (μ id).base + (μ id).cap * n ≤ cells.size ∧ cs.length ≤ (μ id).cap * n ∧ (μ id).cap ≤ 9223372036854775807) ∧
      (wr = true → e' = e ∧ (opn = false → (μ id).base = 0))
  | .map es lk _ => (∃ (es' : List MapEntry) (clock : Nat), w.heap[(μ id).blk]? = some (.map ⟨es'.map (concE μ)⟩ clock) ∧ (es'.map kvOf).Perm (es.map kvOf) ∧
      (es'.map (·.born)).Nodup ∧ (∀ e ∈ es', e.born < clock) ∧ (lk = true → clock = (μ id).cap)) ∧ ∀ e ∈ es, flat e.key = true
  | .iterS s pos => w.heap[(μ id).blk]? = some (.stringIter s pos) ∧ (μ id).base = 0
  | .iterM m lk => (μ id).base = 0 ∧ match m with
    | none => w.heap[(μ id).blk]? = some (.mapIter none 0 #[] 0)
    | some r => ∃ c, w.heap[(μ id).blk]? = some (.mapIter (some (μ r).blk) c #[] c) ∧ (lk = true → c = (μ r).cap)
  | .loopO ls pend tm nt ps assign body => (μ id).base = 0 ∧ ∃ r : Loop, w.heap[(μ id).blk]? = some (.loop r) ∧ r.state = ls ∧ r.pending = pend.map jumpOf ∧
      (∀ t v, tm.get t = some v → r.tmps[t]? = some (conc μ v)) ∧ nt ≤ r.tmps.size ∧ r.params.toList = ps ∧ r.assign = assign ∧ r.body = body

theorem ObjRep.congr {cx : Cx} {μ : Nat → Loc} {w w' : World} {id : Nat} {o : AObj} (h : w'.heap[(μ id).blk]? = w.heap[(μ id).blk]?)
    (hr : ObjRep cx μ w id o) : ObjRep cx μ w' id o := by
  cases o with
  | iterM m lk => cases m <;> simp only [ObjRep, h] at hr ⊢ <;> exact hr
  | _ => simp only [ObjRep, h] at hr ⊢ <;> exact hr

structure Rep (cx : Cx) (m : Nat → Option Loc) (G : Nat → AObj → Prop) (w : World) : Prop where
  dom : ∀ id o, G id o → ∃ l, m id = some l ∧ l.blk < w.heap.size
  obj : ∀ μ, Ext m μ → ∀ id o, G id o → ObjRep cx μ w id o
  inj : ∀ i j oi oj li lj, G i oi → G j oj → oi.isWr = true → m i = some li → m j = some lj → li.blk = lj.blk → i = j
  glob : ∀ g, g < cx.ng → m g = some ⟨g, 0, 0, .nilFunc⟩

def VRep (m : Nat → Option Loc) (v cv : Value) : Prop := ∀ μ, Ext m μ → conc μ v = cv

theorem VRep.mono {m m' : Nat → Option Loc} {v cv : Value} (h : VRep m v cv) (hm : ∀ i l, m i = some l → m' i = some l) : VRep m' v cv :=
  fun μ hμ => h μ (hμ.mono hm)

structure Fr (m : Nat → Option Loc) (G : Nat → AObj → Prop) (w w' : World) : Prop where
  size : w.heap.size ≤ w'.heap.size
  os : w'.os = w.os
  tape : w'.tape = w.tape
  output : w'.output = w.output
  block : ∀ b, b < w.heap.size → (∀ id o l, G id o → o.isWr = true → m id = some l → l.blk ≠ b) → w'.heap[b]? = w.heap[b]?

structure Step (cx : Cx) (m : Nat → Option Loc) (G : Nat → AObj → Prop) (w : World) (ct : Nat)
    (m' : Nat → Option Loc) (G' : Nat → AObj → Prop) (w' : World) (ct' : Nat) : Prop where
  mono : ∀ i l, m i = some l → m' i = some l
  dom : ∀ i l, m' i = some l → m i = some l ∨ (ct ≤ i ∧ i < ct')
  rep : Rep cx m' G' w'
  fr : Fr m G w w'
  prov : ∀ id o l, G' id o → m' id = some l → w.heap.size ≤ l.blk ∨
    ∃ id0 o0 l0, G id0 o0 ∧ (o.isWr = true → o0.isWr = true) ∧ m id0 = some l0 ∧ l0.blk = l.blk

section
variable {cx : Cx} {m m1 m2 : Nat → Option Loc} {G G1 G2 : Nat → AObj → Prop} {w w1 w2 : World} {ct ct1 ct2 : Nat}

theorem Step.refl (h : Rep cx m G w) : Step cx m G w ct m G w ct1 where
  mono := fun _ _ h => h
  dom := fun _ _ h => .inl h
  rep := h
  fr := ⟨Nat.le_refl _, rfl, rfl, rfl, fun _ _ _ => rfl⟩
  prov := fun id o l hg hm => .inr ⟨id, o, l, hg, fun h => h, hm, rfl⟩

theorem Step.trans (h : Step cx m G w ct m1 G1 w1 ct1) (h' : Step cx m1 G1 w1 ct1 m2 G2 w2 ct2) (hc : ct ≤ ct1) (hc' : ct1 ≤ ct2) :
    Step cx m G w ct m2 G2 w2 ct2 where
  mono := fun i l hi => h'.mono i l (h.mono i l hi)
  dom := fun i l hi => by
    rcases h'.dom i l hi with h1 | h1
    · rcases h.dom i l h1 with h2 | h2
      · exact .inl h2
      · exact .inr ⟨h2.1, by omega⟩
    · exact .inr ⟨by omega, h1.2⟩
  rep := h'.rep
  fr := {
    size := Nat.le_trans h.fr.size h'.fr.size
    os := h'.fr.os.trans h.fr.os
    tape := h'.fr.tape.trans h.fr.tape
    output := h'.fr.output.trans h.fr.output
    block := fun b hb hno => by
      rw [h'.fr.block b (Nat.lt_of_lt_of_le hb h.fr.size) ?_, h.fr.block b hb hno]
      intro id o l hg hw hl he
      rcases h.prov id o l hg hl with h1 | ⟨id0, o0, l0, hg0, hw0, hl0, he0⟩
      · omega
      · exact hno id0 o0 l0 hg0 (hw0 hw) hl0 (he0.trans he) }
  prov := fun id o l hg hl => by
    rcases h'.prov id o l hg hl with h1 | ⟨id0, o0, l0, hg0, hw0, hl0, he0⟩
    · exact .inl (Nat.le_trans h.fr.size h1)
    · rcases h.prov id0 o0 l0 hg0 hl0 with h2 | ⟨id1, o1, l1, hg1, hw1, hl1, he1⟩
      · exact .inl (by omega)
      · exact .inr ⟨id1, o1, l1, hg1, fun h => hw1 (hw0 h), hl1, he1.trans he0⟩

/-- the counter may be told greater, from below and from above -/
theorem Step.wider {ct' ct1' : Nat} (h : Step cx m G w ct m1 G1 w1 ct1) (h1 : ct' ≤ ct) (h2 : ct1 ≤ ct1') : Step cx m G w ct' m1 G1 w1 ct1' :=
  { h with dom := fun i l hi => (h.dom i l hi).imp id fun h => ⟨by omega, by omega⟩ }

/-- fewer objects are asked for behind -/
theorem Rep.sub {G' : Nat → AObj → Prop} (h : Rep cx m G w) (hs : ∀ id o, G' id o → G id o) : Rep cx m G' w where
  dom := fun id o hg => h.dom id o (hs id o hg)
  obj := fun μ hμ id o hg => h.obj μ hμ id o (hs id o hg)
  inj := fun i j oi oj li lj hi hj hw => h.inj i j oi oj li lj (hs _ _ hi) (hs _ _ hj) hw
  glob := h.glob

/-- one block turns, that of a writable object -/
theorem Step.upd {G' : Nat → AObj → Prop} {id : Nat} {o o2 : AObj} {l : Loc} (hR : Rep cx m G w) (hid : G id o) (ho : o.isWr = true) (hl : m id = some l)
    (hsz : w1.heap.size = w.heap.size) (hos : w1.os = w.os) (htp : w1.tape = w.tape) (hout : w1.output = w.output)
    (hsame : ∀ b, b ≠ l.blk → w1.heap[b]? = w.heap[b]?)
    (hG : ∀ j oj, G' j oj → (j = id ∧ oj = o2) ∨ (j ≠ id ∧ G j oj))
    (hobj : ∀ μ, Ext m μ → ObjRep cx μ w1 id o2) : Step cx m G w ct m G' w1 ct1 where
  mono := fun _ _ h => h
  dom := fun _ _ h => .inl h
  rep := {
    dom := fun j oj hj => by
      rcases hG j oj hj with ⟨rfl, rfl⟩ | ⟨_, hj⟩
      · obtain ⟨l', h1, h2⟩ := hR.dom _ _ hid
        exact ⟨l', h1, by omega⟩
      · obtain ⟨l', h1, h2⟩ := hR.dom _ _ hj
        exact ⟨l', h1, by omega⟩
    obj := fun μ hμ j oj hj => by
      rcases hG j oj hj with ⟨rfl, rfl⟩ | ⟨hne, hj⟩
      · exact hobj μ hμ
      · obtain ⟨lj, h1, _⟩ := hR.dom _ _ hj
        refine (hR.obj μ hμ j oj hj).congr (hsame _ ?_)
        rw [hμ j lj h1]
        exact fun e => hne (hR.inj id j o oj l lj hid hj ho hl h1 e.symm).symm
    inj := fun i j oi oj li lj hi hj hw hmi hmj he => by
      have hi' : ∃ o', G i o' ∧ o'.isWr = true := by
        rcases hG i oi hi with ⟨rfl, _⟩ | ⟨_, h⟩
        · exact ⟨o, hid, ho⟩
        · exact ⟨_, h, hw⟩
      have hj' : ∃ o', G j o' := by
        rcases hG j oj hj with ⟨rfl, _⟩ | ⟨_, h⟩
        · exact ⟨o, hid⟩
        · exact ⟨_, h⟩
      obtain ⟨_, hi', hw'⟩ := hi'
      obtain ⟨_, hj'⟩ := hj'
      exact hR.inj i j _ _ li lj hi' hj' hw' hmi hmj he
    glob := hR.glob }
  fr := {
    size := by omega
    os := hos
    tape := htp
    output := hout
    block := fun b _ hno => hsame b fun e => hno id o l hid ho hl e.symm }
  prov := fun j oj lj hj hlj => by
    rcases hG j oj hj with ⟨rfl, rfl⟩ | ⟨_, hj⟩
    · rw [hl] at hlj; injection hlj with hlj; subst hlj
      exact .inr ⟨j, o, l, hid, fun _ => ho, hl, rfl⟩
    · exact .inr ⟨j, oj, lj, hj, fun h => h, hlj, rfl⟩

def setM (m : Nat → Option Loc) (id : Nat) (l : Loc) : Nat → Option Loc := fun i => if i = id then some l else m i
theorem setM_same (id : Nat) (l : Loc) : setM m id l id = some l := by simp [setM]
theorem setM_mono {id : Nat} {l : Loc} (h : m id = none) : ∀ i k, m i = some k → setM m id l i = some k := by
  intro i k hi
  simp only [setM]
  split
  · rename_i e; subst e; rw [h] at hi; cases hi
  · exact hi

/-- a new block, a new object -/
theorem Step.new {G' : Nat → AObj → Prop} {id : Nat} {o2 : AObj} {l : Loc} (hR : Rep cx m G w) (hid : m id = none) (hct : ct ≤ id) (hct1 : id < ct1)
    (hb : l.blk = w.heap.size) (hsz : w1.heap.size = w.heap.size + 1) (hos : w1.os = w.os) (htp : w1.tape = w.tape) (hout : w1.output = w.output)
    (hsame : ∀ b, b < w.heap.size → w1.heap[b]? = w.heap[b]?)
    (hG : ∀ j oj, G' j oj → (j = id ∧ oj = o2) ∨ (j ≠ id ∧ G j oj))
    (hobj : ∀ μ, Ext (setM m id l) μ → ObjRep cx μ w1 id o2) : Step cx m G w ct (setM m id l) G' w1 ct1 where
  mono := setM_mono hid
  dom := fun i k hi => by
    simp only [setM] at hi
    split at hi
    · rename_i e; subst e; exact .inr ⟨hct, hct1⟩
    · exact .inl hi
  rep := {
    dom := fun j oj hj => by
      rcases hG j oj hj with ⟨rfl, rfl⟩ | ⟨hne, hj⟩
      · exact ⟨l, setM_same _ _, by omega⟩
      · obtain ⟨l', h1, h2⟩ := hR.dom _ _ hj
        exact ⟨l', setM_mono hid _ _ h1, by omega⟩
    obj := fun μ hμ j oj hj => by
      rcases hG j oj hj with ⟨rfl, rfl⟩ | ⟨hne, hj⟩
      · exact hobj μ hμ
      · obtain ⟨lj, h1, h2⟩ := hR.dom _ _ hj
        refine (hR.obj μ (hμ.mono (setM_mono hid)) j oj hj).congr (hsame _ ?_)
        rw [hμ j lj (setM_mono hid _ _ h1)]
        exact h2
    inj := fun i j oi oj li lj hi hj hw hmi hmj he => by
      have key : ∀ i oi li, G' i oi → setM m id l i = some li → (i = id ∧ li = l) ∨ (i ≠ id ∧ G i oi ∧ m i = some li ∧ li.blk < w.heap.size) := by
        intro i oi li hi hmi
        rcases hG i oi hi with ⟨rfl, _⟩ | ⟨hne, h⟩
        · rw [setM_same] at hmi; injection hmi with hmi; exact .inl ⟨rfl, hmi.symm⟩
        · obtain ⟨l', h1, h2⟩ := hR.dom _ _ h
          have := setM_mono (l := l) hid _ _ h1
          rw [hmi] at this; injection this with this; subst this
          exact .inr ⟨hne, h, h1, h2⟩
      rcases key i oi li hi hmi with ⟨rfl, rfl⟩ | ⟨_, gi, mi, bi⟩ <;> rcases key j oj lj hj hmj with ⟨rfl, rfl⟩ | ⟨_, gj, mj, bj⟩
      · rfl
      · omega
      · omega
      · exact hR.inj i j oi oj li lj gi gj hw mi mj he
    glob := fun g hg => setM_mono hid _ _ (hR.glob g hg) }
  fr := {
    size := by omega
    os := hos
    tape := htp
    output := hout
    block := fun b hb _ => hsame b hb }
  prov := fun j oj lj hj hlj => by
    rcases hG j oj hj with ⟨rfl, rfl⟩ | ⟨hne, hj⟩
    · rw [setM_same] at hlj; injection hlj with hlj; subst hlj; exact .inl (by omega)
    · obtain ⟨l', h1, h2⟩ := hR.dom _ _ hj
      have := setM_mono (l := l) hid _ _ h1
      rw [hlj] at this; injection this with this; subst this
      exact .inr ⟨j, oj, lj, hj, fun h => h, h1, rfl⟩

/-- a writable object goes, another one takes its block, under a new id -/
theorem Step.move {G' : Nat → AObj → Prop} {id0 id : Nat} {o o2 : AObj} {l0 l : Loc} (hR : Rep cx m G w) (h0 : G id0 o) (ho : o.isWr = true) (hl0 : m id0 = some l0)
    (hid : m id = none) (hct : ct ≤ id) (hct1 : id < ct1)
    (hb : l.blk = l0.blk) (hsz : w1.heap.size = w.heap.size) (hos : w1.os = w.os) (htp : w1.tape = w.tape) (hout : w1.output = w.output)
    (hsame : ∀ b, b ≠ l0.blk → w1.heap[b]? = w.heap[b]?)
    (hG : ∀ j oj, G' j oj → (j = id ∧ oj = o2) ∨ (j ≠ id ∧ j ≠ id0 ∧ G j oj))
    (hobj : ∀ μ, Ext (setM m id l) μ → ObjRep cx μ w1 id o2) : Step cx m G w ct (setM m id l) G' w1 ct1 where
  mono := setM_mono hid
  dom := fun i k hi => by
    simp only [setM] at hi
    split at hi
    · rename_i e; subst e; exact .inr ⟨hct, hct1⟩
    · exact .inl hi
  rep := {
    dom := fun j oj hj => by
      rcases hG j oj hj with ⟨rfl, rfl⟩ | ⟨hne, _, hj⟩
      · obtain ⟨l', h1, h2⟩ := hR.dom _ _ h0
        rw [hl0] at h1; injection h1 with h1; subst h1
        exact ⟨l, setM_same _ _, by omega⟩
      · obtain ⟨l', h1, h2⟩ := hR.dom _ _ hj
        exact ⟨l', setM_mono hid _ _ h1, by omega⟩
    obj := fun μ hμ j oj hj => by
      rcases hG j oj hj with ⟨rfl, rfl⟩ | ⟨hne, hne0, hj⟩
      · exact hobj μ hμ
      · obtain ⟨lj, h1, h2⟩ := hR.dom _ _ hj
        refine (hR.obj μ (hμ.mono (setM_mono hid)) j oj hj).congr (hsame _ ?_)
        rw [hμ j lj (setM_mono hid _ _ h1)]
        exact fun e => hne0 (hR.inj id0 j o oj l0 lj h0 hj ho hl0 h1 e.symm).symm
    inj := fun i j oi oj li lj hi hj hw hmi hmj he => by
      have key : ∀ i oi li, G' i oi → setM m id l i = some li → (i = id ∧ li = l) ∨ (i ≠ id ∧ i ≠ id0 ∧ G i oi ∧ m i = some li) := by
        intro i oi li hi hmi
        rcases hG i oi hi with ⟨rfl, _⟩ | ⟨hne, hne0, h⟩
        · rw [setM_same] at hmi; injection hmi with hmi; exact .inl ⟨rfl, hmi.symm⟩
        · obtain ⟨l', h1, h2⟩ := hR.dom _ _ h
          have := setM_mono (l := l) hid _ _ h1
          rw [hmi] at this; injection this with this; subst this
          exact .inr ⟨hne, hne0, h, h1⟩
      rcases key i oi li hi hmi with ⟨rfl, rfl⟩ | ⟨_, n0, gi, mi⟩ <;> rcases key j oj lj hj hmj with ⟨rfl, rfl⟩ | ⟨_, n1, gj, mj⟩
      · rfl
      · exact absurd (hR.inj id0 j o oj l0 lj h0 gj ho hl0 mj (by omega)).symm n1
      · exact absurd (hR.inj id0 i o oi l0 li h0 gi ho hl0 mi (by omega)).symm n0
      · exact hR.inj i j oi oj li lj gi gj hw mi mj he
    glob := fun g hg => setM_mono hid _ _ (hR.glob g hg) }
  fr := {
    size := by omega
    os := hos
    tape := htp
    output := hout
    block := fun b _ hno => hsame b fun e => hno id0 o l0 h0 ho hl0 e.symm }
  prov := fun j oj lj hj hlj => by
    rcases hG j oj hj with ⟨rfl, rfl⟩ | ⟨hne, _, hj⟩
    · rw [setM_same] at hlj; injection hlj with hlj; subst hlj; exact .inr ⟨id0, o, l0, h0, fun _ => ho, hl0, hb.symm⟩
    · obtain ⟨l', h1, h2⟩ := hR.dom _ _ hj
      have := setM_mono (l := l) hid _ _ h1
      rw [hlj] at this; injection this with this; subst this
      exact .inr ⟨j, oj, lj, hj, fun h => h, h1, rfl⟩

/-- a step over a part of the heap is one over the whole -/
theorem Step.frame {GL GR G' : Nat → AObj → Prop} (hR : Rep cx m GL w) (h : Step cx m G w ct m1 G1 w1 ct1) (hG : ∀ id o, G id o → GL id o) (hGR : ∀ id o, GR id o → GL id o)
    (hdis : ∀ id o o', G id o → GR id o' → False) (hG' : ∀ id o, G' id o → G1 id o ∨ GR id o) : Step cx m GL w ct m1 G' w1 ct1 where
  mono := h.mono
  dom := h.dom
  rep := {
    dom := fun id o hg => by
      rcases hG' id o hg with hg | hg
      · exact h.rep.dom id o hg
      · obtain ⟨l, h1, h2⟩ := hR.dom id o (hGR _ _ hg)
        exact ⟨l, h.mono _ _ h1, Nat.lt_of_lt_of_le h2 h.fr.size⟩
    obj := fun μ hμ id o hg => by
      rcases hG' id o hg with hg | hg
      · exact h.rep.obj μ hμ id o hg
      · obtain ⟨l, h1, h2⟩ := hR.dom id o (hGR _ _ hg)
        refine (hR.obj μ (hμ.mono h.mono) id o (hGR _ _ hg)).congr ?_
        rw [hμ id l (h.mono _ _ h1)]
        refine h.fr.block _ h2 ?_
        intro id0 o0 l0 hg0 hw0 hl0 he
        have := hR.inj id0 id o0 o l0 l (hG _ _ hg0) (hGR _ _ hg) hw0 hl0 h1 he
        subst this
        exact hdis _ _ _ hg0 hg
    inj := fun i j oi oj li lj hi hj hw hmi hmj he => by
      have cross : ∀ i j oi oj li lj, G1 i oi → GR j oj → oi.isWr = true ∨ oj.isWr = true → m1 i = some li → m1 j = some lj → li.blk = lj.blk → False := by
        intro i j oi oj li lj gi gj hw hmi hmj he
        obtain ⟨l, h1, h2⟩ := hR.dom j oj (hGR _ _ gj)
        have := h.mono _ _ h1
        rw [hmj] at this; injection this with this; subst this
        rcases h.prov i oi li gi hmi with h3 | ⟨id0, o0, l0, hg0, hw0, hl0, he0⟩
        · omega
        · have : id0 = j := by
            rcases hw with hw | hw
            · exact hR.inj id0 j o0 oj l0 lj (hG _ _ hg0) (hGR _ _ gj) (hw0 hw) hl0 h1 (he0.trans he)
            · exact (hR.inj j id0 oj o0 lj l0 (hGR _ _ gj) (hG _ _ hg0) hw h1 hl0 (he0.trans he).symm).symm
          subst this
          exact hdis _ _ _ hg0 gj
      rcases hG' i oi hi with gi | gi <;> rcases hG' j oj hj with gj | gj
      · exact h.rep.inj i j oi oj li lj gi gj hw hmi hmj he
      · exact (cross i j oi oj li lj gi gj (.inl hw) hmi hmj he).elim
      · exact (cross j i oj oi lj li gj gi (.inr hw) hmj hmi he.symm).elim
      · obtain ⟨l, h1, _⟩ := hR.dom i oi (hGR _ _ gi)
        obtain ⟨l', h1', _⟩ := hR.dom j oj (hGR _ _ gj)
        have e1 := h.mono _ _ h1
        have e2 := h.mono _ _ h1'
        rw [hmi] at e1; injection e1 with e1; subst e1
        rw [hmj] at e2; injection e2 with e2; subst e2
        exact hR.inj i j oi oj li lj (hGR _ _ gi) (hGR _ _ gj) hw h1 h1' he
    glob := h.rep.glob }
  fr := { h.fr with block := fun b hb hno => h.fr.block b hb fun id o l hg hw hl => hno id o l (hG _ _ hg) hw hl }
  prov := fun id o l hg hl => by
    rcases hG' id o hg with hg | hg
    · rcases h.prov id o l hg hl with h3 | ⟨id0, o0, l0, hg0, hw0, hl0, he0⟩
      · exact .inl h3
      · exact .inr ⟨id0, o0, l0, hG _ _ hg0, hw0, hl0, he0⟩
    · obtain ⟨l', h1, _⟩ := hR.dom id o (hGR _ _ hg)
      have e1 := h.mono _ _ h1
      rw [hl] at e1; injection e1 with e1; subst e1
      exact .inr ⟨id, o, l, hGR _ _ hg, fun h => h, h1, rfl⟩

/-- fewer objects behind -/
theorem Step.sub {G' : Nat → AObj → Prop} (h : Step cx m G w ct m1 G1 w1 ct1) (hs : ∀ id o, G' id o → G1 id o) : Step cx m G w ct m1 G' w1 ct1 :=
  { h with rep := h.rep.sub hs, prov := fun id o l hg hl => h.prov id o l (hs _ _ hg) hl }

/-- a draw -/
theorem Step.drew (h : Rep cx m G w) : Step cx m G w ct m G { w with drawn := w.drawn + 1 } ct where
  mono := fun _ _ h => h
  dom := fun _ _ h => .inl h
  rep := ⟨h.dom, fun μ hμ id o hg => (h.obj μ hμ id o hg).congr rfl, h.inj, h.glob⟩
  fr := ⟨Nat.le_refl _, rfl, rfl, rfl, fun _ _ _ => rfl⟩
  prov := fun id o l hg hm => .inr ⟨id, o, l, hg, fun h => h, hm, rfl⟩

end

/-- the heap of a state, as a relation -/
def St.G (st : St) : Nat → AObj → Prop := fun id o => st.hp.get id = some o

end Go.Ai

/-! Cells read and written. -/
namespace Go.Ai
open Go

theorem cell_of {w : World} {b : Nat} {c : Array Value} {e : TypeId} {fz : Nat × Nat} (h : w.heap[b]? = some (.cells c e fz)) (o : Nat) :
    w.cell? ⟨b, o, none⟩ = c[o]? := by simp [World.cell?, h]
theorem frozen_of {w : World} {b : Nat} {c : Array Value} {e : TypeId} {fz : Nat × Nat} (h : w.heap[b]? = some (.cells c e fz)) (o : Nat) (hf : ¬ (fz.1 ≤ o ∧ o < fz.2)) :
    w.frozen? ⟨b, o, none⟩ = false := by
  simp only [World.frozen?, h]
  obtain ⟨lo, hi⟩ := fz
  simp only at hf ⊢
  simpa using hf

theorem add_mk (b o n : Nat) : (Addr.mk b o none).add n = ⟨b, o + n, none⟩ := by
  unfold Addr.add; split <;> simp_all

theorem setCell_heap {w : World} {b o : Nat} {c : Array Value} {e : TypeId} {fz : Nat × Nat} (h : w.heap[b]? = some (.cells c e fz)) (v : Value) :
    (w.setCell ⟨b, o, none⟩ v).heap[b]? = some (.cells (c.setIfInBounds o v) e fz) := by
  have hlt : b < w.heap.size := (Array.getElem?_eq_some_iff.1 h).1
  have hg : w.heap[b] = .cells c e fz := (Array.getElem?_eq_some_iff.1 h).2
  simp [World.setCell, Array.getElem?_modify, h]
theorem setCell_other {w : World} {a : Addr} (v : Value) {b : Nat} (hb : b ≠ a.block) : (w.setCell a v).heap[b]? = w.heap[b]? := by
  simp [World.setCell, Array.getElem?_modify, Ne.symm hb]

theorem isCell_oneCell {v : Value} (h : isCell v = true) : v.oneCell' = true := by
  cases v <;> simp_all [isCell, Value.oneCell']

structure Wrote (w w' : World) (b : Nat) (e : TypeId) (fz : Nat × Nat) (c : Array Value) : Prop where
  size : w'.heap.size = w.heap.size
  os : w'.os = w.os
  tape : w'.tape = w.tape
  output : w'.output = w.output
  other : ∀ k, k ≠ b → w'.heap[k]? = w.heap[k]?
  here : w'.heap[b]? = some (.cells c e fz)

theorem storeCells_run {P : Program} {b e : Nat} {fz : Nat × Nat} {off : Nat} : ∀ (vs : List Value) (i : Nat) (c : Array Value) (w : World),
    w.heap[b]? = some (.cells c e fz) → off + i + vs.length ≤ c.size → (∀ k, k < c.size → ¬ (fz.1 ≤ k ∧ k < fz.2)) → (∀ v ∈ vs, isCell v = true) →
    ∃ w', (storeCells ⟨b, off, none⟩ vs i).run P w = .ok () w' ∧ Wrote w w' b e fz ⟨c.toList.take (off + i) ++ vs ++ c.toList.drop (off + i + vs.length)⟩ := by
  intro vs
  induction vs with
  | nil =>
    intro i c w h hsz hfz hv
    refine ⟨w, by simp [storeCells], rfl, rfl, rfl, rfl, fun _ _ => rfl, ?_⟩
    rw [h]; simp
  | cons v vs ih =>
    intro i c w h hsz hfz hv
    simp only [List.length_cons] at hsz
    have hc : w.cell? ⟨b, off + i, none⟩ = some c[off + i] := by rw [cell_of h]; exact Array.getElem?_eq_getElem (by omega)
    have hf : w.frozen? ⟨b, off + i, none⟩ = false := frozen_of h _ (hfz _ (by omega))
    have h1 := setCell_heap (o := off + i) h v
    obtain ⟨w', hrun, hw⟩ := ih (i + 1) _ (w.setCell ⟨b, off + i, none⟩ v) h1 (by simp; omega) (by simpa using hfz) (fun x hx => hv x (by simp [hx]))
    refine ⟨w', ?_, ?_⟩
    · simp only [storeCells, Sem.run_bind, add_mk, run_store P w _ v .plain (isCell_oneCell (hv v (by simp))), hc, hf]
      simpa using hrun
    · refine ⟨hw.size.trans (by simp), hw.os.trans rfl, hw.tape.trans rfl, hw.output.trans rfl, fun k hk => (hw.other k hk).trans (setCell_other v hk), ?_⟩
      rw [hw.here]
      congr 2
      apply Array.ext'
      simp only [Array.toList_setIfInBounds, List.length_cons]
      have hlt : off + i < c.toList.length := by simp; omega
      rw [show off + (i + 1) = off + i + 1 by omega, List.take_succ_eq_append_getElem (by simpa using hlt)]
      rw [List.take_set, List.drop_set]
      simp only [List.getElem_set_self]
      rw [if_pos (by omega), List.set_eq_of_length_le (by simp; omega)]
      simp [Nat.add_assoc, Nat.add_comm 1]

theorem allCells_mem {vs : List Value} (h : allCells vs = true) : ∀ v ∈ vs, isCell v = true := by
  induction vs with
  | nil => simp
  | cons x l ih =>
    simp only [allCells, Bool.and_eq_true] at h
    intro v hv
    rcases List.mem_cons.1 hv with rfl | hv
    · exact h.1
    · exact ih h.2 v hv

theorem takeC_eq : ∀ (n : Nat) (l r : List Value), takeC n l = some r → takeCells n l = some r ∧ ∀ v ∈ r, isCell v = true := by
  intro n
  induction n with
  | zero => intro l r h; simp [takeC] at h; subst h; exact ⟨by simp [takeCells], by simp⟩
  | succ n ih =>
    intro l r h
    cases l with
    | nil => simp [takeC] at h
    | cons x l =>
      simp only [takeC] at h
      cases hx : isCell x with
      | false => rw [hx] at h; simp at h
      | true =>
        rw [hx] at h
        simp only at h
        cases hr : takeC n l with
        | none => rw [hr] at h; simp at h
        | some q =>
          rw [hr] at h
          simp at h; subst h
          obtain ⟨h1, h2⟩ := ih l q hr
          refine ⟨by simp only [takeCells, h1], fun v hv => ?_⟩
          rcases List.mem_cons.1 hv with rfl | hv
          · exact hx
          · exact h2 v hv

section
variable {P : Program} {m : Nat → Option Loc} {st : St} {w : World}

/-- reading -/
theorem readCells_run (hR : Rep (Cx.of P) m st.G w) {a : Addr} {n : Nat} {l : List Value} (h : readCells st a n = some l)
    {μ : Nat → Loc} (hμ : Ext m μ) {ca : Addr} (hca : a.spot = none → ca = concAddr μ a) : (loadCells ca n).run P w = .ok (l.map (conc μ)).toArray w ∧ l.length = n := by
  cases n with
  | zero => simp [readCells] at h; subst h; simp [loadCells, loadCellsFrom]
  | succ n =>
    simp only [readCells] at h
    cases hs : a.spot with
    | some d => rw [hs] at h; simp at h
    | none =>
      rw [hs] at h
      simp only at h
      cases hg : st.hp.get a.block with
      | none => rw [hg] at h; simp at h
      | some o =>
        rw [hg] at h
        cases o with
        | row e cs opn wr =>
          simp only at h
          cases hd : dropCells a.off cs with
          | none => rw [hd] at h; simp at h
          | some q =>
            rw [hd] at h
            simp only at h
            obtain ⟨h1, rfl⟩ := dropCells_eq _ _ _ hd
            obtain ⟨h, hcell⟩ := takeC_eq _ _ _ h
            obtain ⟨h2, rfl⟩ := takeCells_eq _ _ _ h
            obtain ⟨cells, _, fz, hb, hsz, hcs, _, _, _⟩ := hR.obj μ hμ _ _ hg
            have hlen : (List.take (n + 1) (List.drop a.off cs)).length = n + 1 := by simp at h2 ⊢; omega
            refine ⟨?_, hlen⟩
            rw [hca hs]
            have := run_loadCells_list (P := P) (w := w) (concAddr μ a) ((List.take (n + 1) (List.drop a.off cs)).map (conc μ)) (fun j v hj => by
              simp only [List.getElem?_map, Option.map_eq_some_iff] at hj
              obtain ⟨u, hu, rfl⟩ := hj
              have hcu := hcell u (List.mem_of_getElem? hu)
              rw [List.getElem?_take] at hu
              split at hu
              · rw [List.getElem?_drop] at hu
                simp only [concAddr, add_mk]
                rw [cell_of hb, Nat.add_assoc]
                exact hcs _ _ hu hcu
              · cases hu)
            rw [List.length_map, hlen] at this
            exact this
        | _ => simp at h

/-- the cells that are read -/
theorem readCells_cell (hR : Rep (Cx.of P) m st.G w) {a : Addr} {n : Nat} {l : List Value} (h : readCells st a n = some l)
    {μ : Nat → Loc} (hμ : Ext m μ) : l.length = n ∧ (n ≠ 0 → a.spot = none) ∧ ∀ j v, l[j]? = some v → w.cell? ((concAddr μ a).add j) = some (conc μ v) := by
  cases n with
  | zero => simp [readCells] at h; subst h; exact ⟨rfl, fun h => absurd rfl h, fun j v hj => by simp at hj⟩
  | succ n =>
    simp only [readCells] at h
    cases hs : a.spot with
    | some d => rw [hs] at h; simp at h
    | none =>
      rw [hs] at h
      simp only at h
      cases hg : st.hp.get a.block with
      | none => rw [hg] at h; simp at h
      | some o =>
        rw [hg] at h
        cases o with
        | row e cs opn wr =>
          simp only at h
          cases hd : dropCells a.off cs with
          | none => rw [hd] at h; simp at h
          | some q =>
            rw [hd] at h
            simp only at h
            obtain ⟨h1, rfl⟩ := dropCells_eq _ _ _ hd
            obtain ⟨h, hcell⟩ := takeC_eq _ _ _ h
            obtain ⟨h2, rfl⟩ := takeCells_eq _ _ _ h
            obtain ⟨cells, _, fz, hb, hsz, hcs, _, _, _⟩ := hR.obj μ hμ _ _ hg
            refine ⟨by simp at h2 ⊢; omega, fun _ => rfl, fun j v hu => ?_⟩
            have hcu := hcell v (List.mem_of_getElem? hu)
            rw [List.getElem?_take] at hu
            split at hu
            · rw [List.getElem?_drop] at hu
              simp only [concAddr, add_mk]
              rw [cell_of hb, Nat.add_assoc]
              exact hcs _ _ hu hcu
            · cases hu
        | _ => simp at h

/-- writing -/
theorem writeCells_run (hR : Rep (Cx.of P) m st.G w) {a : Addr} {vs cvs : List Value} {st' : St} (h : writeCells st a vs = some st')
    (hv : ∀ μ, Ext m μ → vs.map (conc μ) = cvs) {ca : Addr} (hca : ∀ μ, Ext m μ → a.spot = none → ca = concAddr μ a) (ct : Nat) :
    ∃ w', (storeCells ca cvs).run P w = .ok () w' ∧ Step (Cx.of P) m st.G w ct m st'.G w' ct ∧ st'.ct = st.ct := by
  unfold writeCells at h
  cases hg : st.hp.get a.block with
  | none => rw [hg] at h; simp at h
  | some o =>
    rw [hg] at h
    cases o with
    | row e cs opn wr =>
      cases wr with
      | false => simp at h
      | true =>
        simp only at h
        cases hc : a.spot.isNone && allCells vs with
        | false => rw [hc] at h; simp at h
        | true =>
          rw [hc] at h
          simp only [Bool.and_eq_true, Option.isNone_iff_eq_none] at hc h
          cases hp : putCells a.off vs cs with
          | none => rw [hp] at h; simp at h
          | some q =>
            rw [hp] at h
            simp only [Option.some.injEq] at h; subst h
            obtain ⟨h1, rfl⟩ := putCells_eq _ _ _ _ hp
            obtain ⟨l, hl, hlt⟩ := hR.dom _ _ hg
            have hμ0 := some0_ext m
            obtain ⟨cells, _, fz, hb, hsz, hcs, hfz, hopn, he⟩ := hR.obj _ hμ0 _ _ hg
            obtain ⟨he1, hbase⟩ := he rfl
            obtain rfl := he1.symm
            have hloc : ∀ μ, Ext m μ → μ a.block = l := fun μ hμ => hμ _ _ hl
            rw [hloc _ hμ0] at hb hsz hcs
            have hlen : cvs.length = vs.length := by rw [← hv _ hμ0]; simp
            have hcell : ∀ v ∈ cvs, isCell v = true := by
              rw [← hv _ hμ0]
              intro v hv'
              obtain ⟨u, hu, rfl⟩ := List.mem_map.1 hv'
              rw [isCell_conc]
              exact allCells_mem hc.2 u hu
            obtain ⟨w', hrun, hw⟩ := storeCells_run (P := P) (b := l.blk) (e := e) (fz := fz) (off := l.base + a.off) cvs 0 cells w hb (by omega) (hfz rfl) hcell
            refine ⟨w', ?_, ?_, rfl⟩
            · rw [hca _ hμ0 hc.1]
              simp only [concAddr, hloc _ hμ0]
              exact hrun
            · refine Step.upd (id := a.block) (o := .row e cs opn true) (o2 := .row e (List.take a.off cs ++ vs ++ List.drop (a.off + vs.length) cs) opn true) hR hg rfl hl hw.size hw.os hw.tape hw.output hw.other ?_ ?_
              · intro j oj hj
                simp only [St.G, T.get_set] at hj
                split at hj
                · rename_i e; subst e; injection hj with hj; exact .inl ⟨rfl, hj.symm⟩
                · rename_i hne; exact .inr ⟨hne, hj⟩
              · intro μ hμ
                obtain ⟨cells', _, fz', hb', _, hcs', _, hopn', _⟩ := hR.obj μ hμ _ _ hg
                rw [hloc _ hμ] at hb' hcs' hopn'
                rw [hb] at hb'
                injection hb' with hb'
                injection hb' with hb1 _ hb2
                subst hb1; subst hb2
                have hlen' : (List.take a.off cs ++ vs ++ List.drop (a.off + vs.length) cs).length = cs.length := by simp; omega
                refine ⟨⟨List.take (l.base + a.off + 0) cells.toList ++ cvs ++ List.drop (l.base + a.off + 0 + cvs.length) cells.toList⟩, _, fz, ?_, ?_, ?_, ?_, ?_, fun _ => ⟨rfl, fun ho => by rw [hloc _ hμ]; rw [hloc _ hμ0] at hbase; exact hbase ho⟩⟩
                · rw [hloc _ hμ]; exact hw.here
                · rw [hloc _ hμ, hlen']; simp; omega
                · intro j v hj hcv2
                  rw [hloc _ hμ]
                  rw [← Array.getElem?_toList]
                  simp only [Nat.add_zero]
                  have hcv := hv μ hμ
                  by_cases hj1 : j < a.off
                  · rw [List.append_assoc, List.getElem?_append_left (by simp; omega), List.getElem?_take_of_lt hj1] at hj
                    rw [List.append_assoc, List.getElem?_append_left (by simp; omega), List.getElem?_take_of_lt (by omega), Array.getElem?_toList]
                    exact hcs' _ _ hj hcv2
                  · by_cases hj2 : j < a.off + vs.length
                    · rw [List.append_assoc, List.getElem?_append_right (by simp; omega), List.getElem?_append_left (by simp; omega)] at hj
                      rw [List.append_assoc, List.getElem?_append_right (by simp; omega), List.getElem?_append_left (by simp; omega), ← hcv, List.getElem?_map]
                      simp only [List.length_take, Array.length_toList] at hj ⊢
                      rw [show l.base + j - min (l.base + a.off) cells.size = j - min a.off cs.length by omega, hj]
                      rfl
                    · rw [List.getElem?_append_right (by simp; omega), List.getElem?_drop] at hj
                      rw [List.getElem?_append_right (by simp; omega), List.getElem?_drop, Array.getElem?_toList]
                      simp only [List.length_append, List.length_take, Array.length_toList] at hj ⊢
                      rw [show l.base + a.off + cvs.length + (l.base + j - (min (l.base + a.off) cells.size + cvs.length)) = l.base + (a.off + vs.length + (j - (min a.off cs.length + vs.length))) by omega]
                      exact hcs' _ _ hj hcv2
                · intro _ k hk
                  exact hfz rfl k (by simp at hk; omega)
                · intro ho n hn
                  rw [hloc _ hμ, hlen']
                  have := hopn' ho n hn
                  simp
                  omega
    | _ => simp at h

end
end Go.Ai

/-! Operations that read memory. -/
namespace Go.Ai
open Go

/-- an Int is at most so much -/
theorem bytesOfCells_eq : ∀ (l : List Value) (bs : List UInt8), bytesOfCells l = some bs →
    ∃ ns : List Int, l = ns.map (Value.int .u8) ∧ bs = ns.map fun n => UInt8.ofNat n.toNat := by
  intro l
  induction l with
  | nil => intro bs h; simp [bytesOfCells] at h; subst h; exact ⟨[], rfl, rfl⟩
  | cons v l ih =>
    intro bs h
    unfold bytesOfCells at h
    split at h <;> rename_i heq
    · simp at heq
    · rename_i n l'
      injection heq with h1 h2
      subst h1; subst h2
      cases hb : bytesOfCells l with
      | none => rw [hb] at h; simp at h
      | some r =>
        rw [hb] at h
        simp at h; subst h
        obtain ⟨ns, rfl, rfl⟩ := ih r hb
        exact ⟨n :: ns, rfl, rfl⟩
    · simp at h

theorem foldl_bytes : ∀ (ns : List Int) (s : ByteArray), ns.foldl (fun r n => r.push (UInt8.ofNat n.toNat)) s = ⟨⟨s.data.toList ++ ns.map fun n => UInt8.ofNat n.toNat⟩⟩ := by
  intro ns
  induction ns with
  | nil => intro s; simp
  | cons n ns ih => intro s; simp only [List.foldl_cons]; rw [ih]; simp [ByteArray.push]

section
variable {P : Program} {m : Nat → Option Loc} {st : St} {w : World}

theorem bytesToString_run (hR : Rep (Cx.of P) m st.G w) {a ca : Addr} {n c : Nat} {l : List Value} {bs : List UInt8} (h : readCells st a n = some l) (hb : bytesOfCells l = some bs)
    {μ : Nat → Loc} (hμ : Ext m μ) (hca : a.spot = none → ca = concAddr μ a) : (Conv.bytesToString (.slice (some ca) n c)).run P w = .ok (.string ⟨⟨bs⟩⟩) w := by
  obtain ⟨h1, _⟩ := readCells_run hR h hμ hca
  obtain ⟨ns, rfl, rfl⟩ := bytesOfCells_eq _ _ hb
  rw [run_bytesToString w ca n c ns (by rw [h1]; simp [Function.comp_def]), foldl_bytes]
  simp

theorem readOne_run (hR : Rep (Cx.of P) m st.G w) {a : Addr} {v : Value} (h : readCells st a 1 = some [v]) {μ : Nat → Loc} (hμ : Ext m μ) :
    (load (concAddr μ a)).run P w = .ok (conc μ v) w := by
  obtain ⟨h1, _⟩ := readCells_run hR h hμ (ca := concAddr μ a) (fun _ => rfl)
  have h2 : (loadCells (concAddr μ a) 1).run P w = ((load ((concAddr μ a).add 0)).run P w).andThen fun v w' => .ok #[v] w' := by
    simp [loadCells, loadCellsFrom]
  have h3 : (concAddr μ a).add 0 = concAddr μ a := by simp [Addr.add]
  rw [h2, h3] at h1
  cases hl : (load (concAddr μ a)).run P w with
  | ok x w' =>
    rw [hl] at h1
    simp only [Result.andThen_ok, List.map_cons, List.map_nil, Result.ok.injEq] at h1
    obtain ⟨h4, rfl⟩ := h1
    have : x = conc μ v := by simpa using h4
    rw [this]
  | halt x w' => rw [hl] at h1; simp at h1

theorem loadVar_run (hR : Rep (Cx.of P) m st.G w) {t : TypeId} {a : Addr} {v : Value} {μ : Nat → Loc} (hμ : Ext m μ)
    (h : (match (Cx.of P).isAgg t, (Cx.of P).size t with
      | some true, some n => match readCells st a n with
        | some l => some (Value.agg ⟨l⟩)
        | none => none
      | some false, some _ => match readCells st a 1 with
        | some [v] => some v
        | _ => none
      | _, _ => none) = some v) : (loadVar t (concAddr μ a)).run P w = .ok (conc μ v) w := by
  cases hg : (Cx.of P).isAgg t with
  | none => rw [hg] at h; simp at h
  | some b =>
    cases hs : (Cx.of P).size t with
    | none => rw [hg, hs] at h; cases b <;> simp at h
    | some n =>
      rw [hg, hs] at h
      cases b with
      | true =>
        simp only at h
        cases hr : readCells st a n with
        | none => rw [hr] at h; simp at h
        | some l =>
          rw [hr] at h
          simp at h; subst h
          obtain ⟨h1, _⟩ := readCells_run hR hr hμ (ca := concAddr μ a) (fun _ => rfl)
          simp [loadVar, run_isAgg w hg, run_sizeOf w hs, h1, concA_mk]
      | false =>
        simp only at h
        split at h
        · rename_i u hr
          simp at h; subst h
          have := readOne_run hR hr hμ
          simp only [loadVar, Sem.run_bind, run_isAgg w hg, Result.andThen_ok, Bool.false_eq_true, if_false, this]
        · simp at h

/-- the capacity of an open slice -/
theorem openOk_spec (hR : Rep (Cx.of P) m st.G w) {a : Addr} {len cap n : Nat} (h : openOk (Cx.of P) st a len cap n = true) {μ : Nat → Loc} (hμ : Ext m μ) (hop : isOpen cap = true) :
    a.spot = none ∧ 1 ≤ n ∧ len + (openCap - cap) ≤ (μ a.block).cap ∧ concCap μ a.block cap = (μ a.block).cap - (openCap - cap) ∧ a.off = (openCap - cap) * n ∧ cap ≤ openCap ∧
      (μ a.block).cap ≤ 9223372036854775807 ∧
      ∃ e cs wr, st.hp.get a.block = some (.row e cs true wr) ∧ (Cx.of P).size e = some n ∧ a.off + len * n ≤ cs.length ∧ cs.length ≤ (μ a.block).cap * n := by
  unfold openOk at h
  cases hg : st.hp.get a.block with
  | none => rw [hg] at h; simp at h
  | some o =>
    rw [hg] at h
    split at h <;> rename_i heq <;> (try (simp at h; done))
    rename_i e cs wr
    simp only [Option.some.injEq] at heq
    subst heq
    cases hs : (Cx.of P).size e with
    | none => rw [hs] at h; simp at h
    | some q =>
      rw [hs] at h
      simp only [Bool.and_eq_true, Option.isNone_iff_eq_none] at h
      obtain ⟨⟨⟨⟨⟨h1, h2⟩, h3⟩, h4⟩, h5⟩, h6⟩ := h
      have h2 := Nat.eq_of_beq_eq_true h2
      subst h2
      have h3 := Nat.le_of_ble_eq_true h3
      have h4 := Nat.eq_of_beq_eq_true h4
      have h5 := Nat.le_of_ble_eq_true h5
      have h6 := Nat.le_of_ble_eq_true h6
      obtain ⟨cells, _, fz, _, _, _, _, ho, _⟩ := hR.obj μ hμ _ _ hg
      obtain ⟨_, ho2, ho3⟩ := ho rfl q hs
      refine ⟨h1, h3, ?_, by simp [concCap, hop], h4, h6, ho3, e, cs, wr, rfl, hs, h5, ho2⟩
      have : (len + (openCap - cap)) * q ≤ (μ a.block).cap * q := by rw [Nat.add_mul]; omega
      exact Nat.le_of_mul_le_mul_right this (by omega)

theorem sliceBounds3_run {len cap top m : Nat} {lo : Option Value} {hi mx : Value} {l h : Nat} {μ : Nat → Loc} (htop : top ≤ cap)
    (hm : bound mx top = some m) (hh : bound hi m = some h) (hl : boundOr 0 h lo = some l) :
    (Instr.sliceBounds true len cap (lo.map (conc μ)) (some (conc μ hi)) (some (conc μ mx))).run P w = .ok (l, h, m) w ∧ l ≤ h ∧ h ≤ m ∧ m ≤ top := by
  have e1 := bound_run (P := P) μ w (.slice3Acap) (bound_mono htop hm)
  have e2 := bound_run (P := P) μ w (.slice3B) hh
  have e3 := (bound_run (P := P) μ w (.slice3B) hm).2.1
  cases lo with
  | none =>
    simp [boundOr] at hl; subst hl
    exact ⟨by simp [Instr.sliceBounds, e1.1, e2.1], by omega, e2.2.1, e3⟩
  | some v =>
    simp only [boundOr] at hl
    have e4 := bound_run (P := P) μ w (.slice3C) hl
    exact ⟨by simp [Instr.sliceBounds, e1.1, e2.1, e4.1], e4.2.1, e2.2.1, e3⟩

theorem slice3_run (hR : Rep (Cx.of P) m st.G w) {t : TypeId} {x v hi mx : Value} {lo : Option Value} (h : slice3 (Cx.of P) st t x lo hi mx = some v) {μ : Nat → Loc} (hμ : Ext m μ) :
    (Instr.sliceAt t (conc μ x) (lo.map (conc μ)) (some (conc μ hi)) (some (conc μ mx))).run P w = .ok (conc μ v) w := by
  unfold slice3 at h
  split at h <;> (try (simp at h; done))
  rename_i a len cap
  split at h <;> (try (simp at h; done))
  rename_i e hd
  have hu := run_underlying w hd
  split at h <;> (try (simp at h; done))
  rename_i n hs
  have hz := run_sizeOf w hs
  split at h <;> (try (simp at h; done))
  rename_i hsp
  simp only [Bool.and_eq_true, Option.isNone_iff_eq_none] at hsp
  obtain ⟨hsp, hok⟩ := hsp
  split at h <;> (try (simp at h; done))
  rename_i mm hm
  split at h <;> (try (simp at h; done))
  rename_i hb hh
  split at h <;> (try (simp at h; done))
  rename_i l hl
  split at h <;> (try (simp at h; done))
  rename_i hop
  simp only [Option.some.injEq] at h; subst h
  have htop : ∃ top, bound mx top = some mm ∧ top ≤ concCap μ a.block cap := by
    cases ho : isOpen cap with
    | false => rw [ho] at hm; exact ⟨cap, hm, by simp [concCap, ho]⟩
    | true =>
      rw [ho] at hm hok
      obtain ⟨_, _, _, hcc, _, hcap, _⟩ := openOk_spec hR hok hμ ho
      exact ⟨len, hm, by rw [hcc]; omega⟩
  obtain ⟨top, hm, htop⟩ := htop
  obtain ⟨hbd, h1, h2, h3⟩ := sliceBounds3_run (P := P) (w := w) (μ := μ) (len := len) htop hm hh hl
  have hcap' : ∀ id, concCap μ id (mm - l) = mm - l := by
    intro id; unfold concCap; rw [if_neg]; rw [isOpen_iff]
    intro hc
    rw [← Bool.not_eq_true, isOpen_iff] at hop; omega
  simp only [conc_slice, hcap', concEnd_none μ hsp, Instr.sliceAt, Sem.run_bind, hu, Result.andThen_ok, Instr.slice, hbd, hz, Sem.run_pure]
  by_cases hml : mm = l
  · subst hml
    simp [concEnd_none μ hsp]
  · have hb : Nat.beq mm l = false := by
      cases hq : Nat.beq mm l
      · rfl
      · exact absurd (Nat.eq_of_beq_eq_true hq) hml
    have hsp' : (a.add (l * n)).spot = none := by unfold Addr.add; split <;> simp [hsp]
    simp [hb, hml, concEnd_none μ hsp', concAddr_add]

theorem sliceR_run (hR : Rep (Cx.of P) m st.G w) {t : TypeId} {x v : Value} {lo hi : Option Value} (h : sliceR (Cx.of P) st t x lo hi = some v) {μ : Nat → Loc} (hμ : Ext m μ) :
    (Instr.sliceAt t (conc μ x) (lo.map (conc μ)) (hi.map (conc μ)) none).run P w = .ok (conc μ v) w := by
  unfold sliceR at h
  cases x with
  | slice oa len cap =>
    simp only at h
    cases hd : (Cx.of P).desc t with
    | none => rw [hd] at h; simp at h
    | some d =>
      rw [hd] at h
      cases d <;> simp only at h <;> (try (simp at h; done))
      rename_i e
      have hu := run_underlying w hd
      cases hs : (Cx.of P).size e with
      | none => rw [hs] at h; simp at h
      | some n =>
        rw [hs] at h
        simp only at h
        have hz := run_sizeOf w hs
        cases oa with
        | none =>
          simp only at h
          cases hh : boundOr len cap hi with
          | none => rw [hh] at h; simp at h
          | some hb =>
            rw [hh] at h
            simp only at h
            cases hl : boundOr 0 hb lo with
            | none => rw [hl] at h; simp at h
            | some l =>
              rw [hl] at h
              simp at h; subst h
              have hbd := (sliceBounds_run (P := P) (isSlice := true) μ w (Nat.le_refl _) hh hl).1
              simp [Instr.sliceAt, hu, Instr.slice, hbd, hz]
        | some a =>
          simp only at h
          cases hop : isOpen cap with
          | false =>
            rw [hop] at h
            simp only at h
            cases hsp : a.spot with
            | some q => rw [hsp] at h; simp at h
            | none =>
              rw [hsp] at h
              simp only at h
              cases hh : boundOr len cap hi with
              | none => rw [hh] at h; simp at h
              | some hb =>
                rw [hh] at h
                simp only at h
                cases hl : boundOr 0 hb lo with
                | none => rw [hl] at h; simp at h
                | some l =>
                  rw [hl] at h
                  simp only [Option.some.injEq] at h; subst h
                  have hcap : ∀ id, concCap μ id cap = cap := by intro id; simp [concCap, hop]
                  have hcap' : ∀ id, concCap μ id (cap - l) = cap - l := by
                    intro id; unfold concCap; rw [if_neg]; rw [isOpen_iff]
                    intro hc
                    rw [← Bool.not_eq_true, isOpen_iff] at hop; omega
                  have hbd := (sliceBounds_run (P := P) (isSlice := true) μ w (Nat.le_refl _) hh hl).1
                  simp only [conc_slice, hcap, hcap', concEnd_none μ hsp, Instr.sliceAt, Sem.run_bind, hu, Result.andThen_ok, Instr.slice, hbd, hz, Sem.run_pure]
                  by_cases hml : cap = l
                  · subst hml
                    simp [concEnd_none μ hsp]
                  · have hb : Nat.beq cap l = false := by
                      cases hq : Nat.beq cap l
                      · rfl
                      · exact absurd (Nat.eq_of_beq_eq_true hq) hml
                    have hsp' : (a.add (l * n)).spot = none := by unfold Addr.add; split <;> simp [hsp]
                    simp [hb, hml, concEnd_none μ hsp', concAddr_add]
          | true =>
            rw [hop] at h
            simp only at h
            cases hok : openOk (Cx.of P) st a len cap n with
            | false => rw [hok] at h; simp at h
            | true =>
              rw [hok] at h
              simp only at h
              obtain ⟨hsp, hn1, hlen, hcc, hoff, hcap, hc63, _⟩ := openOk_spec hR hok hμ hop
              cases hh : boundOr len len hi with
              | none => rw [hh] at h; simp at h
              | some hb =>
                rw [hh] at h
                simp only at h
                cases hl : boundOr 0 hb lo with
                | none => rw [hl] at h; simp at h
                | some l =>
                  rw [hl] at h
                  simp only at h
                  have hbd := (sliceBounds_run (P := P) (isSlice := true) (cap := concCap μ a.block cap) μ w (by rw [hcc]; omega) hh hl).1
                  have hhl : hb ≤ len := by
                    cases hi with
                    | none => simp [boundOr] at hh; omega
                    | some u => exact (bound_run (P := P) μ w .index hh).2.1
                  have hlh := (sliceBounds_run (P := P) (isSlice := true) (cap := concCap μ a.block cap) μ w (by rw [hcc]; omega) hh hl).2
                  have hcl : concCap μ a.block (cap - l) = concCap μ a.block cap - l := by
                    rw [hcc]
                    have h64 := (isOpen_iff cap).1 hop
                    have : isOpen (cap - l) = true := by
                      rw [isOpen_iff]
                      have : openCap = 1267650600228229401496703205376 := rfl
                      omega
                    simp only [concCap, this, if_true]
                    omega
                  simp only [conc_slice, concEnd_none μ hsp, Instr.sliceAt, Sem.run_bind, hu, Result.andThen_ok, Instr.slice, hbd, hz, Sem.run_pure]
                  cases hq : Nat.beq l 0 || Nat.blt l len with
                  | true =>
                    rw [hq] at h
                    simp only [Option.some.injEq] at h; subst h
                    have hsp' : (a.add (l * n)).spot = none := by unfold Addr.add; split <;> simp [hsp]
                    simp only [conc_slice, add_block, hcl, concEnd_none μ hsp', concAddr_add]
                    have hne : concCap μ a.block cap = l → l = 0 := by
                      intro e
                      simp only [Bool.or_eq_true] at hq
                      rcases hq with hq | hq
                      · exact Nat.eq_of_beq_eq_true hq
                      · have : l < len := by
                          have := Nat.le_of_ble_eq_true hq
                          omega
                        rw [hcc] at e; omega
                    by_cases e : concCap μ a.block cap = l
                    · have := hne e
                      subst this
                      rw [if_pos e]; simp [Addr.add]
                    · rw [if_neg e]; simp
                  | false =>
                    rw [hq] at h
                    simp only [Option.some.injEq] at h; subst h
                    simp only [Bool.or_eq_false_iff] at hq
                    have hl2 : ¬ l < len := by
                      intro hlt
                      have : Nat.blt l len = true := Nat.ble_eq.mpr hlt
                      rw [this] at hq; exact absurd hq.2 (by simp)
                    have hhb : hb - l = 0 := by omega
                    simp only [conc_slice, hcl, hhb]
                    congr 3
                    unfold concEnd
                    simp only [concAddr]
                    by_cases e : concCap μ a.block cap = l
                    · rw [if_pos e]; simp [e]
                    · have : ¬ (concCap μ a.block cap - l = 0) := by rw [hcc] at e ⊢; omega
                      rw [if_neg e, if_neg this]
                      simp [add_mk, Nat.add_assoc]
  | _ => simp at h

end
end Go.Ai

/-! Keys found in maps. -/
namespace Go.Ai
open Go

section
variable {P : Program}

theorem sameNow_equal {kt : TypeId} {kind : TypeDesc} {k y : Value} {b b' : Bool} (hd : (Cx.of P).desc kt = some kind)
    (hs : Instr.sameNow kind k y = some b') (hq : quiet P (Op.equal kt k y) = some b) : b = b' := by
  let w : World := default
  have hr := quiet_run hq w
  have hu := run_underlying w hd
  have hr' : (Op.equalIn (9999 + 1) kt k y).run P w = .ok b w := hr
  generalize 9999 = d at hr'
  unfold Instr.sameNow at hs
  split at hs
  · rename_i q k1 a k2 b2
    by_cases e : k1 = k2
    · subst e
      simp at hs; subst hs
      simp [Op.equalIn, hu] at hr'
      exact hr'.symm
    · simp [e] at hs
  · simp at hs; subst hs
    simp [Op.equalIn, hu] at hr'
    exact hr'.symm
  · simp at hs; subst hs
    simp [Op.equalIn, hu] at hr'
    exact hr'.symm
  · simp at hs

theorem findNow_eq {kt : TypeId} {kind : TypeDesc} {k : Value} (hd : (Cx.of P).desc kt = some kind) (μ : Nat → Loc) : ∀ (es : List MapEntry) (i : Nat) (r : Option (Nat × MapEntry)) (q : Option (Nat × Value)),
    findA (Cx.of P) kt k es i = some r → Instr.findNow kind k (es.map (concE μ)) i = some q → q = r.map fun (i, e) => (i, conc μ e.val) := by
  intro es
  induction es with
  | nil => intro i r q h h'; simp [findA] at h; simp [Instr.findNow] at h'; subst h; subst h'; rfl
  | cons e es ih =>
    intro i r q h h'
    simp only [findA] at h
    cases hf : flat e.key with
    | false => rw [hf] at h; simp at h
    | true =>
      rw [hf] at h
      simp only at h
      simp only [List.map_cons, Instr.findNow] at h'
      cases hq : quiet (Cx.of P).P (Op.equal kt k e.key) with
      | none => rw [hq] at h; simp at h
      | some b =>
        rw [hq] at h
        cases hs : Instr.sameNow kind k (concE μ e).key with
        | none => rw [hs] at h'; simp at h'
        | some b' =>
          rw [hs] at h'
          have hb : b = b' := sameNow_equal hd hs hq
          subst hb
          cases b with
          | true => simp at h h'; subst h; subst h'; rfl
          | false => exact ih _ _ _ h h'

theorem findAsking_run (w : World) {kt : TypeId} {k : Value} (μ : Nat → Loc) : ∀ (es : List MapEntry) (i : Nat) (r : Option (Nat × MapEntry)),
    findA (Cx.of P) kt k es i = some r → (Instr.findAsking kt k (es.map (concE μ)) i).run P w = .ok (r.map fun (i, e) => (i, conc μ e.val)) w := by
  intro es
  induction es with
  | nil => intro i r h; simp [findA] at h; subst h; simp [Instr.findAsking]
  | cons e es ih =>
    intro i r h
    simp only [findA] at h
    cases hf : flat e.key with
    | false => rw [hf] at h; simp at h
    | true =>
      rw [hf] at h
      simp only at h
      cases hq : quiet (Cx.of P).P (Op.equal kt k e.key) with
      | none => rw [hq] at h; simp at h
      | some b =>
        rw [hq] at h
        have hr : (Op.equal kt k (concE μ e).key).run P w = .ok b w := quiet_run hq w
        simp only [List.map_cons, Instr.findAsking, Sem.run_bind, hr, Result.andThen_ok]
        cases b with
        | true => simp at h; subst h; simp [concE]
        | false => simpa using ih _ _ h

theorem findKey_run (w : World) {kt : TypeId} {k : Value} {es : List MapEntry} {r : Option (Nat × MapEntry)} (h : findM (Cx.of P) kt k es = some r) (μ : Nat → Loc) :
    (Instr.findKey kt k (es.map (concE μ))).run P w = .ok (r.map fun (i, e) => (i, conc μ e.val)) w := by
  unfold findM at h
  cases hd : (Cx.of P).desc kt with
  | none => rw [hd] at h; simp at h
  | some kind =>
    rw [hd] at h
    simp only at h
    simp only [Instr.findKey, Sem.run_bind, run_underlying w hd, Result.andThen_ok]
    cases hn : Instr.findNow kind k (es.map (concE μ)) 0 with
    | none => exact findAsking_run w μ es 0 r h
    | some q => simp [findNow_eq hd μ es 0 r q h hn]

end

section
variable {P : Program} {m : Nat → Option Loc} {st : St} {w : World}

theorem map_obj (hR : Rep (Cx.of P) m st.G w) {r : Nat} {es : List MapEntry} {lk wr : Bool} (hg : st.hp.get r = some (.map es lk wr)) {μ : Nat → Loc} (hμ : Ext m μ) :
    ∃ (es' : List MapEntry) (clock : Nat), (getObj (μ r).blk).run P w = .ok (.map ⟨es'.map (concE μ)⟩ clock) w ∧ w.heap[(μ r).blk]? = some (.map ⟨es'.map (concE μ)⟩ clock) ∧ (es'.map kvOf).Perm (es.map kvOf) ∧
      (es'.map (·.born)).Nodup ∧ (∀ e ∈ es', e.born < clock) ∧ (lk = true → clock = (μ r).cap) := by
  obtain ⟨⟨es', clock, hb, hp, h1, h2, h3⟩, _⟩ := hR.obj μ hμ _ _ hg
  exact ⟨es', clock, by simp [getObj, Sem.run, hb], hb, hp, h1, h2, h3⟩

theorem mapOf_run (hR : Rep (Cx.of P) m st.G w) {v : Value} {es : List MapEntry} (h : mapOf st v = some es) {μ : Nat → Loc} (hμ : Ext m μ) :
    (v = .map none ∧ es = []) ∨ ∃ (r : Nat) (es' : List MapEntry) (clock : Nat), v = .map (some r) ∧ (getObj (μ r).blk).run P w = .ok (.map ⟨es'.map (concE μ)⟩ clock) w ∧ (es'.map kvOf).Perm (es.map kvOf) := by
  cases v <;> simp only [mapOf] at h <;> (try (simp at h; done))
  rename_i o
  cases o with
  | none => simp at h; exact .inl ⟨rfl, h⟩
  | some r =>
    simp only at h
    cases hg : st.hp.get r with
    | none => rw [hg] at h; simp at h
    | some ob =>
      rw [hg] at h
      cases ob <;> simp only at h <;> (try (simp at h; done))
      simp at h; subst h
      obtain ⟨es', clock, h1, _, h2, _⟩ := map_obj hR hg hμ
      exact .inr ⟨r, es', clock, rfl, h1, h2⟩

theorem beq_eqStr (a b : ByteArray) : (a == b) = eqStr a b := by
  have h : (a == b) = (a.data == b.data) := by cases a; cases b; rfl
  rw [h, eqStr_eq, Bool.eq_iff_iff, decide_eq_true_iff, beq_iff_eq]
  exact ⟨fun h => ByteArray.ext h, fun h => by rw [h]⟩
theorem eqQ_eq {P : Program} {kt : TypeId} {k y : Value} : eqQ (Cx.of P) kt k y = quiet (Cx.of P).P (Op.equal kt k y) := by
  unfold eqQ
  split
  · rename_i a b
    split
    · rename_i hd
      have h2 : P.underlying kt = some .string := Cx.desc_under hd
      have hu : (underlying kt : Sem TypeDesc) = underlying kt := rfl
      show _ = quiet P (Op.equalIn (9999 + 1) kt (.string a) (.string b))
      rw [Op.equalIn, ← beq_eqStr]
      simp [quiet, underlying, program, h2, bind, Sem.bind, pure]
    · rfl
  · rfl
theorem noneA_spec {P : Program} {kt : TypeId} {k : Value} : ∀ (es : List MapEntry), noneA (Cx.of P) kt k es = true → ∀ e ∈ es, flat e.key = true ∧ quiet (Cx.of P).P (Op.equal kt k e.key) = some false := by
  intro es
  induction es with
  | nil => intro _ e he; simp at he
  | cons x es ih =>
    intro h e he
    simp only [noneA, eqQ_eq] at h
    split at h <;> (try (cases h; done))
    rename_i hf
    split at h <;> (try (cases h; done))
    rename_i hq
    rcases List.mem_cons.1 he with rfl | he
    · exact ⟨hf, hq⟩
    · exact ih h e he

theorem findU_spec {P : Program} {kt : TypeId} {k : Value} : ∀ (es : List MapEntry) (i : Nat) (r : Option (Nat × MapEntry)), findU (Cx.of P) kt k es i = some r →
    (∀ e ∈ es, flat e.key = true ∧ ∃ b, quiet (Cx.of P).P (Op.equal kt k e.key) = some b ∧ (b = true → r.map (·.2) = some e)) ∧ (∀ j e, r = some (j, e) → i ≤ j ∧ es[j - i]? = some e ∧ quiet (Cx.of P).P (Op.equal kt k e.key) = some true) := by
  intro es
  induction es with
  | nil => intro i r h; simp [findU] at h; subst h; exact ⟨fun e he => by simp at he, fun j e he => by cases he⟩
  | cons x es ih =>
    intro i r h
    simp only [findU, eqQ_eq] at h
    split at h <;> (try (simp at h; done))
    rename_i hf
    split at h
    · rename_i hq
      split at h <;> (try (simp at h; done))
      rename_i hno
      simp at h; subst h
      refine ⟨fun e he => ?_, fun j e he => ?_⟩
      · rcases List.mem_cons.1 he with rfl | he
        · exact ⟨hf, true, hq, fun _ => rfl⟩
        · obtain ⟨h1, h2⟩ := noneA_spec _ hno e he
          exact ⟨h1, false, h2, fun h => by cases h⟩
      · injection he with he
        simp only [Prod.mk.injEq] at he
        obtain ⟨rfl, rfl⟩ := he
        exact ⟨Nat.le_refl _, by simp, hq⟩
    · rename_i hq
      obtain ⟨h1, h2⟩ := ih (i + 1) r h
      refine ⟨fun e he => ?_, fun j e he => ?_⟩
      · rcases List.mem_cons.1 he with rfl | he
        · exact ⟨hf, false, hq, fun h => by cases h⟩
        · exact h1 e he
      · obtain ⟨h3, h4, h5⟩ := h2 j e he
        refine ⟨by omega, ?_, h5⟩
        rw [show j - i = (j - (i + 1)) + 1 by omega]; simpa using h4
    · simp at h

theorem findA_total {cx : Cx} {kt : TypeId} {k : Value} : ∀ (es : List MapEntry) (i : Nat), (∀ e ∈ es, flat e.key = true ∧ ∃ b, quiet cx.P (Op.equal kt k e.key) = some b) →
    (findA cx kt k es i = some none ∧ ∀ e ∈ es, quiet cx.P (Op.equal kt k e.key) = some false) ∨ ∃ j e, findA cx kt k es i = some (some (j, e)) ∧ i ≤ j ∧ es[j - i]? = some e ∧ quiet cx.P (Op.equal kt k e.key) = some true := by
  intro es
  induction es with
  | nil => intro i _; exact .inl ⟨rfl, fun e he => by simp at he⟩
  | cons x es ih =>
    intro i h
    obtain ⟨hf, b, hq⟩ := h x (by simp)
    simp only [findA, hf, hq]
    cases b with
    | true => exact .inr ⟨i, x, rfl, Nat.le_refl _, by simp, hq⟩
    | false =>
      rcases ih (i + 1) (fun e he => h e (by simp [he])) with ⟨h1, h2⟩ | ⟨j, e, h1, h2, h3, h4⟩
      · refine .inl ⟨h1, fun e he => ?_⟩
        rcases List.mem_cons.1 he with rfl | he
        · exact hq
        · exact h2 e he
      · refine .inr ⟨j, e, h1, by omega, ?_, h4⟩
        rw [show j - i = (j - (i + 1)) + 1 by omega]; simpa using h3

/-- found in whatever order -/
theorem findU_perm {kt : TypeId} {k : Value} {es es' : List MapEntry} {r : Option (Nat × MapEntry)} (h : findMU (Cx.of P) kt k es = some r) (hp : (es'.map kvOf).Perm (es.map kvOf)) :
    (findM (Cx.of P) kt k es' = some none ∧ r = none) ∨ ∃ i e j e', r = some (i, e) ∧ findM (Cx.of P) kt k es' = some (some (j, e')) ∧ es[i]? = some e ∧ es'[j]? = some e' ∧ e.key = e'.key ∧ e.val = e'.val := by
  unfold findMU at h
  unfold findM
  split at h <;> (try (simp at h; done))
  obtain ⟨h1, h2⟩ := findU_spec _ _ _ h
  have back : ∀ e' ∈ es', ∃ e ∈ es, e.key = e'.key ∧ e.val = e'.val := by
    intro e' he'
    have : kvOf e' ∈ es.map kvOf := hp.mem_iff.1 (List.mem_map.2 ⟨e', he', rfl⟩)
    obtain ⟨e, he, hk⟩ := List.mem_map.1 this
    simp only [kvOf, Prod.mk.injEq] at hk
    exact ⟨e, he, hk.1, hk.2⟩
  have forth : ∀ e ∈ es, ∃ e' ∈ es', e.key = e'.key ∧ e.val = e'.val := by
    intro e he
    have : kvOf e ∈ es'.map kvOf := hp.mem_iff.2 (List.mem_map.2 ⟨e, he, rfl⟩)
    obtain ⟨e', he', hk⟩ := List.mem_map.1 this
    simp only [kvOf, Prod.mk.injEq] at hk
    exact ⟨e', he', hk.1.symm, hk.2.symm⟩
  have htot := findA_total (cx := Cx.of P) (kt := kt) (k := k) es' 0 (fun e' he' => by
    obtain ⟨e, he, hk, _⟩ := back e' he'
    obtain ⟨h3, b, h4, _⟩ := h1 e he
    rw [← hk]; exact ⟨h3, b, h4⟩)
  rcases htot with ⟨h3, h4⟩ | ⟨j, e', h3, _, h4, h5⟩
  · refine .inl ⟨h3, ?_⟩
    cases r with
    | none => rfl
    | some q =>
      obtain ⟨i, e⟩ := q
      obtain ⟨_, h6, h7⟩ := h2 i e rfl
      obtain ⟨e', he', hk, _⟩ := forth e (List.mem_of_getElem? h6)
      have := h4 e' he'
      rw [← hk, h7] at this; cases this
  · rw [Nat.sub_zero] at h4
    obtain ⟨e, he, hk, hv⟩ := back e' (List.mem_of_getElem? h4)
    obtain ⟨_, b, h6, h7⟩ := h1 e he
    rw [hk, h5] at h6
    injection h6 with h6
    have h8 := h7 h6.symm
    cases r with
    | none => simp at h8
    | some q =>
      obtain ⟨i, e2⟩ := q
      simp at h8; subst h8
      obtain ⟨_, h9, _⟩ := h2 i e2 rfl
      exact .inr ⟨i, e2, j, e', rfl, h3, by simpa using h9, h4, hk, hv⟩

theorem shape_cells {b : Nat} {cs : Array Value} {e : TypeId} {fz : Nat × Nat} (hb : w.heap[b]? = some (.cells cs e fz)) : (shape b).run P w = .ok (some (e, cs.size)) w := by
  simp [shape, Sem.run, World.shape?, hb]
theorem viewAt_cells {b : Nat} {cs : Array Value} {e : TypeId} {fz : Nat × Nat} (hb : w.heap[b]? = some (.cells cs e fz)) : (viewAt b).run P w = .ok none w := by
  simp [viewAt, shape_cells hb]
theorem seenAt_cells {a : Addr} {cs : Array Value} {e : TypeId} {fz : Nat × Nat} (hb : w.heap[a.block]? = some (.cells cs e fz)) : (Conv.seenAt a).run P w = .ok a w := by
  simp [Conv.seenAt, viewAt_cells hb]
theorem cellsIn_cells {b : Nat} {cs : Array Value} {e : TypeId} {fz : Nat × Nat} (hb : w.heap[b]? = some (.cells cs e fz)) : (cellsIn b).run P w = .ok (some cs.size) w := by
  simp [cellsIn, shape_cells hb]

theorem cellsOf_of {t : TypeId} {n : Nat} (h : (Cx.of P).size t = some n) : P.cellsOf t = n := by
  obtain ⟨i, hi, rfl⟩ := size_info h
  simp [Program.cellsOf, Cx.info hi]

theorem toUnsafe_run {s d t : TypeId} {k : Nat} {a : Addr} {cs : Array Value} {e : TypeId} {fz : Nat × Nat} (hs : (Cx.of P).desc s = some (.pointer t)) (hd : (Cx.of P).desc d = some .unsafePointer) (hz : (Cx.of P).size t = some (k + 1))
    (hb : w.heap[a.block]? = some (.cells cs e fz)) (ho : a.off < cs.size) : (convert s d (.pointer (some a))).run P w = .ok (.pointer (some a)) w := by
  have us := run_underlying w hs
  have ud := run_underlying w hd
  have : ¬ cs.size ≤ a.off := by omega
  simp [convert, us, ud, Conv.unsafePointer, seenAt_cells hb, cellsIn_cells hb, run_sizeOf w hz, this]

theorem sameLayout_refl (d : Nat) (t : TypeId) : sameLayout P (d + 1) t t = true := by simp [sameLayout]

theorem liesAt_self {u : TypeId} {k count off : Nat} (hz : (Cx.of P).size u = some (k + 1)) (hm : off % (k + 1) = 0) (hc : off / (k + 1) + 1 ≤ count) : liesAt P P.depth u count off u 1 = true := by
  have hd : ∃ q, P.depth = q + 1 := ⟨2 * (P.types.size + Made.depth) + 1, rfl⟩
  obtain ⟨q, hq⟩ := hd
  unfold liesAt
  rw [hq]
  simp only [Bool.or_eq_true]
  refine .inl ?_
  unfold rowAt
  simp only [cellsOf_of hz]
  rw [if_neg (by omega)]
  simp [hm, hc, sameLayout_refl]

theorem fromUnsafe_run {s d u : TypeId} {k : Nat} {a : Addr} {cs : Array Value} {fz : Nat × Nat} (hs : (Cx.of P).desc s = some .unsafePointer) (hd : (Cx.of P).desc d = some (.pointer u)) (hz : (Cx.of P).size u = some (k + 1))
    (hb : w.heap[a.block]? = some (.cells cs u fz)) (hm : a.off % (k + 1) = 0) (ho : a.off + (k + 1) ≤ cs.size) : (convert s d (.pointer (some a))).run P w = .ok (.pointer (some a)) w := by
  have us := run_underlying w hs
  have ud := run_underlying w hd
  have hc : a.off / (k + 1) + 1 ≤ cs.size / (k + 1) := by
    rw [Nat.le_div_iff_mul_le (by omega)]
    have := Nat.div_add_mod a.off (k + 1)
    rw [hm, Nat.add_zero] at this
    rw [Nat.add_mul, Nat.mul_comm]
    omega
  have hv : (variablesAt a u 1).run P w = .ok true w := by
    have h0 : (shape a.block).run P w = .ok (some (u, cs.size)) w := shape_cells hb
    unfold variablesAt
    simp only [Sem.run_bind, run_program, Result.andThen_ok, h0, cellsOf_of hz, liesAt_self hz hm hc, Sem.run_pure]
  simp [convert, us, ud, Conv.unsafePointer, seenAt_cells hb, run_sizeOf w hz, hv]

theorem readOp_sound (hR : Rep (Cx.of P) m st.G w) {tm : T Value} {μ : Nat → Loc} (hμ : Ext m μ) {ρ : Operand → Value} (hρ : ∀ x v, ev (Cx.of P) tm x = some v → ρ x = conc μ v)
    {o : Oper} {v : Value} (h : readOp (Cx.of P) tm st o.op = some v) : (execOp ρ o).run P w = .ok (.value (conc μ v)) w := by
  have val : ∀ {s : Sem Value} {r : Value}, s.run P w = .ok r w → (do pure (.value (← s)) : Sem Next).run P w = .ok (.value r) w := by
    intro s r hs; simp [hs]
  unfold execOp
  cases hop : o.op <;> rw [hop] at h <;> simp only [readOp] at h <;> (try (simp at h; done)) <;> simp only
  case load t x =>
    refine val ?_
    cases hx : ev (Cx.of P) tm x with
    | none => rw [hx] at h; simp at h
    | some xv =>
      rw [hx] at h
      rw [hρ x xv hx]
      cases xv <;> (try (simp at h; done))
      rename_i oa
      cases oa <;> simp only at h <;> (try (simp at h; done))
      rename_i a
      simp only [conc_ptr, Instr.loadAt, Sem.run_bind, Instr.sureAddr, Sem.run_pure, Result.andThen_ok]
      exact loadVar_run hR hμ h
  case convert s d x =>
    refine val ?_
    split at h <;> (try (simp at h; done))
    case h_2 t hs hd =>
      cases hx : ev (Cx.of P) tm x with
      | none => rw [hx] at h; simp at h
      | some xv =>
        rw [hx] at h
        rw [hρ x xv hx]
        cases xv <;> (try (simp at h; done))
        rename_i oa
        cases oa with
        | none =>
          simp at h; subst h
          simp [convert, run_underlying w hs, run_underlying w hd, Conv.unsafePointer]
        | some a =>
          simp only at h
          split at h <;> (try (simp at h; done))
          rename_i k e cs o wr hz hg
          split at h <;> (try (simp at h; done))
          rename_i hlt
          simp only [Bool.and_eq_true, Option.isNone_iff_eq_none] at hlt
          have hlt1 : a.off < cs.length := Nat.le_of_ble_eq_true hlt.1
          simp at h; subst h
          obtain ⟨cells, e', fz, hb, hsz, _⟩ := hR.obj μ hμ _ _ hg
          rw [conc_ptr]
          exact toUnsafe_run hs hd hz (a := concAddr μ a) hb (by simp only [concAddr]; omega)
    case h_3 u hs hd =>
      cases hx : ev (Cx.of P) tm x with
      | none => rw [hx] at h; simp at h
      | some xv =>
        rw [hx] at h
        rw [hρ x xv hx]
        cases xv <;> (try (simp at h; done))
        rename_i oa
        cases oa with
        | none =>
          simp at h; subst h
          simp [convert, run_underlying w hs, run_underlying w hd, Conv.unsafePointer]
        | some a =>
          simp only at h
          split at h <;> (try (simp at h; done))
          rename_i k e cs hz hg
          split at h <;> (try (simp at h; done))
          rename_i hlt
          simp only [Bool.and_eq_true, Option.isNone_iff_eq_none] at hlt
          obtain ⟨⟨⟨h1, h2⟩, h3⟩, h4⟩ := hlt
          have h1 := Nat.eq_of_beq_eq_true h1
          have h2 := Nat.eq_of_beq_eq_true h2
          have h3 := Nat.le_of_ble_eq_true h3
          simp at h; subst h
          obtain ⟨cells, e', fz, hb, hsz, _, _, _, hw⟩ := hR.obj μ hμ _ _ hg
          obtain ⟨he, hbase⟩ := hw rfl
          have hbase := hbase rfl
          subst he; subst h1
          rw [conc_ptr]
          exact fromUnsafe_run hs hd hz (a := concAddr μ a) hb (by simp only [concAddr, hbase, Nat.zero_add]; exact h2) (by simp only [concAddr, hbase, Nat.zero_add]; omega)
    rename_i e hs hd
    split at h <;> (try (simp at h; done))
    rename_i he
    have us := run_underlying w hs
    have ud := run_underlying w hd
    have ue := run_underlying w he
    cases hx : ev (Cx.of P) tm x with
    | none => rw [hx] at h; simp at h
    | some xv =>
      rw [hx] at h
      rw [hρ x xv hx]
      cases xv <;> (try (simp at h; done))
      rename_i oa n c
      cases oa with
      | none =>
        simp at h; subst h
        simp [convert, us, ud, ue, Conv.bytesToString]
        rfl
      | some a =>
        simp only at h
        cases hr : readCells st a n with
        | none => rw [hr] at h; simp at h
        | some l =>
          rw [hr] at h
          simp only at h
          cases hb : bytesOfCells l with
          | none => rw [hb] at h; simp at h
          | some bs =>
            rw [hb] at h
            simp at h; subst h
            have := bytesToString_run (n := n) (c := concCap μ a.block c) hR hr hb hμ (ca := concEnd μ a (concCap μ a.block c)) (fun hs => concEnd_none μ hs _)
            simp only [conc_slice, conc_string]
            rw [run_convert_bytes_string w s d e _ _ _ (Cx.desc_under hs) (Cx.desc_under he) (Cx.desc_under hd)]
            exact this
  case slice t x lo hi mx =>
    refine val ?_
    cases mx with
    | some mo =>
      simp only at h
      cases hx : ev (Cx.of P) tm x with
      | none => rw [hx] at h; simp at h
      | some a =>
        rw [hx] at h
        simp only at h
        cases hl : opt (Cx.of P) tm lo with
        | none => rw [hl] at h; simp at h
        | some l =>
          rw [hl] at h
          simp only at h
          cases hh : opt (Cx.of P) tm hi with
          | none => rw [hh] at h; simp at h
          | some b =>
            rw [hh] at h
            cases b with
            | none => simp at h
            | some b =>
              simp only at h
              cases hm : ev (Cx.of P) tm mo with
              | none => rw [hm] at h; simp at h
              | some mv =>
                rw [hm] at h
                rw [hρ x a hx, opt_map μ hρ hl, opt_map μ hρ hh]
                simp only [Option.map_some, hρ mo mv hm]
                exact slice3_run hR h hμ
    | none =>
      simp only at h
      cases hx : ev (Cx.of P) tm x with
      | none => rw [hx] at h; simp at h
      | some a =>
        rw [hx] at h
        simp only at h
        cases hl : opt (Cx.of P) tm lo with
        | none => rw [hl] at h; simp at h
        | some l =>
          rw [hl] at h
          simp only at h
          cases hh : opt (Cx.of P) tm hi with
          | none => rw [hh] at h; simp at h
          | some b =>
            rw [hh] at h
            rw [hρ x a hx, opt_map μ hρ hl, opt_map μ hρ hh]
            exact sliceR_run hR h hμ
  case lookup t mm k ok =>
    refine val ?_
    split at h <;> (try (simp at h; done))
    rename_i kt et mv kv hd hm hk
    split at h <;> (try (simp at h; done))
    rename_i es z hkf hes hz
    rw [hρ mm mv hm, hρ k kv hk]
    have ud := run_underlying w hd
    have uz := run_zeroValue w hz
    cases hc : quiet (Cx.of P).P (Instr.checkKey es.isEmpty 10000 kt kv) with
    | none => rw [hc] at h; simp at h
    | some u =>
      rw [hc] at h
      cases hf : findMU (Cx.of P) kt kv es with
      | none => rw [hf] at h; simp at h
      | some r =>
        rw [hf] at h
        have hck : (Instr.checkKey es.isEmpty 10000 kt kv).run P w = .ok u w := quiet_run hc w
        have hfin : ∀ (es' : List MapEntry), (es'.map kvOf).Perm (es.map kvOf) → ∃ q, (Instr.findKey kt kv (es'.map (concE μ))).run P w = .ok q w ∧
            ((∃ i u, q = some (i, conc μ u) ∧ v = (if ok then .tuple #[u, .bool true] else u)) ∨ (q = none ∧ flat z = true ∧ v = (if ok then .tuple #[z, .bool false] else z))) := by
          intro es' hp
          rcases findU_perm hf hp with ⟨hf', rfl⟩ | ⟨i, e, j, e', rfl, hf', _, _, _, hv⟩
          · refine ⟨_, findKey_run w hf' μ, .inr ⟨rfl, ?_⟩⟩
            simp only at h
            split at h <;> (try (simp at h; done))
            rename_i hzf
            simp at h
            exact ⟨hzf, h.symm⟩
          · refine ⟨_, findKey_run w hf' μ, .inl ⟨j, e'.val, rfl, ?_⟩⟩
            simp at h
            rw [← hv]; exact h.symm
        rw [conc_flat μ kv hkf]
        rcases mapOf_run hR hes hμ with ⟨rfl, rfl⟩ | ⟨r', es', clock, rfl, hg, hp⟩
        · obtain ⟨q, hfr, hq⟩ := hfin [] (List.Perm.refl _)
          simp only [conc_nilmap, Instr.lookup, Sem.run_bind, ud, Result.andThen_ok, Sem.run_pure]
          simp only [List.isEmpty_nil] at hck
          simp only [List.map_nil] at hfr
          simp only [Array.isEmpty_empty, hck, Result.andThen_ok]
          simp only [hfr, Result.andThen_ok]
          rcases hq with ⟨i, u, rfl, rfl⟩ | ⟨rfl, hzf, rfl⟩
          · cases ok <;> simp [concA_eq]
          · cases ok <;> simp [uz, concA_eq, conc_flat μ z hzf]
        · obtain ⟨q, hfr, hq⟩ := hfin es' hp
          simp only [conc_map, Instr.lookup, Sem.run_bind, ud, Result.andThen_ok, hg, Sem.run_pure]
          have he : (⟨es'.map (concE μ)⟩ : Array MapEntry).isEmpty = es.isEmpty := by
            have := hp.length_eq
            simp only [List.length_map] at this
            cases es <;> cases es' <;> simp at this ⊢
          rw [he]
          simp only [hck, Result.andThen_ok]
          simp only [hfr, Result.andThen_ok]
          rcases hq with ⟨i, u, rfl, rfl⟩ | ⟨rfl, hzf, rfl⟩
          · cases ok <;> simp [concA_eq]
          · cases ok <;> simp [uz, concA_eq, conc_flat μ z hzf]
  case call c =>
    split at h <;> (try (simp at h; done))
    rename_i b hc
    cases b <;> (try (simp at h; done))
    simp only at h
    split at h <;> (try (simp at h; done))
    rename_i x t hxs hts
    split at h <;> (try (simp at h; done))
    rename_i kt et v' hd hx
    have ud := run_underlying w hd
    have ht' : c.argTypes[0]? = some t := by rw [← Array.getElem?_toList, hts]; rfl
    have e' : c.args.map ρ = #[conc μ v'] := by
      rw [← hρ x v' hx]; apply Array.ext'; simp [hxs]
    cases hm : mapOf st v' with
    | none => rw [hm] at h; simp at h
    | some es =>
      rw [hm] at h
      simp at h; subst h
      simp only [resolve, hc, Sem.run_bind, Sem.run_pure, Result.andThen_ok, invoke, builtin, e']
      rcases mapOf_run hR hm hμ with ⟨rfl, rfl⟩ | ⟨r', es', clock, rfl, hg, hp⟩
      · simp [Builtin.len_, ht', ud]
      · have := hp.length_eq
        simp only [List.length_map] at this
        simp [Builtin.len_, ht', ud, hg, this]

end
end Go.Ai

/-! Operations that make one object. -/
namespace Go.Ai
open Go

theorem rep_get (z : List Value) : ∀ (k i : Nat), i < k * z.length → (rep k z)[i]? = z[i % z.length]? := by
  intro k
  induction k with
  | zero => intro i h; simp at h
  | succ k ih =>
    intro i h
    simp only [rep]
    by_cases hi : i < z.length
    · rw [List.getElem?_append_left hi, Nat.mod_eq_of_lt hi]
    · have h' : i < k * z.length + 1 * z.length := by rw [← Nat.add_mul]; exact h
      rw [List.getElem?_append_right (by omega), ih _ (by omega), Nat.mod_eq_sub_mod (a := i) (by omega)]
theorem rep_length (z : List Value) (k : Nat) : (rep k z).length = k * z.length := by
  induction k with
  | zero => simp [rep]
  | succ k ih => simp [rep, ih, Nat.add_mul, Nat.add_comm]

theorem made_rep (z : Array Value) (k : Nat) : (Array.range (k * z.size)).map (z[· % z.size]!) = ⟨rep k z.toList⟩ := by
  apply Array.ext'
  apply List.ext_getElem?
  intro i
  simp only [Array.toList_map, Array.toList_range, List.getElem?_map]
  by_cases h : i < k * z.size
  · rw [rep_get _ _ _ (by simpa using h), List.getElem?_range h]
    have hz : 0 < z.size := by
      rcases Nat.eq_zero_or_pos z.size with h0 | h0
      · rw [h0] at h; simp at h
      · exact h0
    have := Nat.mod_lt i hz
    simp [this]
  · rw [List.getElem?_eq_none (by simpa using Nat.le_of_not_lt h), List.getElem?_eq_none (by rw [rep_length]; simpa using Nat.le_of_not_lt h)]
    rfl

theorem flatL_rep {z : List Value} (h : flatL z = true) (k : Nat) : flatL (rep k z) = true := by
  have app : ∀ (a b : List Value), flatL a = true → flatL b = true → flatL (a ++ b) = true := by
    intro a
    induction a with
    | nil => intro b _ hb; exact hb
    | cons x a ih => intro b ha hb; simp only [flatL, Bool.and_eq_true, List.cons_append] at ha ⊢; exact ⟨ha.1, ih b ha.2 hb⟩
  induction k with
  | zero => simp [rep, flatL]
  | succ k ih => exact app _ _ h ih
theorem flat_cells {v : Value} (h : flat v = true) : flatL v.cells.toList = true := by
  cases v <;> (try (simp only [Value.cells, flatL, h]; rfl))
  rename_i cs
  cases cs with
  | mk l => simpa only [flat, flatA, Value.cells] using h
theorem map_flat {l : List Value} (h : flatL l = true) (μ : Nat → Loc) : l.map (conc μ) = l := by rw [← concL_eq]; exact concL_flat μ l h

structure New (w w' : World) : Prop where
  size : w'.heap.size = w.heap.size + 1
  os : w'.os = w.os
  tape : w'.tape = w.tape
  output : w'.output = w.output
  old : ∀ b, b < w.heap.size → w'.heap[b]? = w.heap[b]?

theorem New.push (w : World) (o : Obj) : New w { w with heap := w.heap.push o } :=
  ⟨by simp, rfl, rfl, rfl, fun b hb => by rw [Array.getElem?_push]; simp [Nat.ne_of_lt hb]⟩
theorem push_here (w : World) (o : Obj) : ({ w with heap := w.heap.push o } : World).heap[w.heap.size]? = some o := by simp

theorem zeroN_spec {P : Program} {e : TypeId} {n : Nat} {z : List Value} (h : zeroN (Cx.of P) e n = some z) :
    ∃ v, (Cx.of P).zero e = some v ∧ flat v = true ∧ v.cells.size = n ∧ z = v.cells.toList := by
  unfold zeroN at h
  cases hz : (Cx.of P).zero e with
  | none => rw [hz] at h; simp at h
  | some v =>
    rw [hz] at h
    simp only at h
    cases hc : flat v && Nat.beq v.cells.size n with
    | false => rw [hc] at h; simp at h
    | true =>
      rw [hc] at h
      simp only [Bool.and_eq_true] at hc
      simp at h
      exact ⟨v, rfl, hc.1, Nat.eq_of_beq_eq_true hc.2, h.symm⟩

theorem freeze_push (w : World) (cells : Array Value) (e : TypeId) (k : Nat) :
    ({ w with heap := w.heap.push (.cells cells e) } : World).freeze ⟨w.heap.size, k, none⟩ 1 = { w with heap := w.heap.push (.cells cells e (k, k + 1)) } := by
  simp only [World.freeze, Nat.one_ne_zero, if_false]
  congr 1
  apply Array.ext_getElem?
  intro i
  rw [Array.getElem?_modify, Array.getElem?_push, Array.getElem?_push]
  by_cases h : i = w.heap.size
  · subst h; simp
  · simp [h, Ne.symm h]

section
variable {P : Program} {m : Nat → Option Loc} {w : World}

/-- a new row that is closed -/
theorem row_new {e : TypeId} {l : List Value} {cl : List Value} (wr : Bool) {id : Nat} (hl : ∀ μ, Ext (setM m id ⟨w.heap.size, 0, 0, .nilFunc⟩) μ → l.map (conc μ) = cl) :
    ∀ μ, Ext (setM m id ⟨w.heap.size, 0, 0, .nilFunc⟩) μ → ObjRep (Cx.of P) μ { w with heap := w.heap.push (.cells ⟨cl⟩ e) } id (.row e l false wr) := by
  intro μ hμ
  have hloc : μ id = ⟨w.heap.size, 0, 0, .nilFunc⟩ := hμ _ _ (setM_same _ _)
  have hc := hl μ hμ
  refine ⟨⟨cl⟩, _, (0, 0), ?_, ?_, ?_, ?_, ?_, fun _ => ⟨rfl, fun h => by first | (cases h; done) | rw [hloc] | rw [at_ hμ]⟩⟩
  · rw [hloc]; exact push_here w _
  · rw [hloc, ← hc]; simp
  · intro j v hj
    rw [hloc, ← hc]; simp [hj]
  · intro _ k _; simp
  · intro h; cases h

theorem allocOp_sound {tm : T Value} {ρ : Operand → Value} {id : Nat} (hid : m id = none) (hρ : ∀ x v, ev (Cx.of P) tm x = some v → VRep m v (ρ x))
    {o : Oper} {ob : AObj} {f : Nat → Value} (h : allocOp (Cx.of P) tm o.op = some (ob, f)) :
    ∃ w' cv l, (execOp ρ o).run P w = .ok (.value cv) w' ∧ New w w' ∧ l.blk = w.heap.size ∧
      (∀ μ, Ext (setM m id l) μ → ObjRep (Cx.of P) μ w' id ob ∧ conc μ (f id) = cv) := by
  have val : ∀ {s : Sem Value} {r : Value} {w' : World}, s.run P w = .ok r w' → (do pure (.value (← s)) : Sem Next).run P w = .ok (.value r) w' := by
    intro s r w' hs; simp [hs]
  have up : ∀ {μ : Nat → Loc} {l : Loc}, Ext (setM m id l) μ → Ext m μ := fun hμ => hμ.mono (setM_mono hid)
  have at_ : ∀ {μ : Nat → Loc} {l : Loc}, Ext (setM m id l) μ → μ id = l := fun hμ => hμ _ _ (setM_same _ _)
  unfold execOp
  cases hop : o.op <;> rw [hop] at h <;> simp only [allocOp] at h <;> (try (simp at h; done)) <;> simp only
  case alloc e =>
    cases hz : (Cx.of P).zero e with
    | none => rw [hz] at h; simp at h
    | some z =>
      rw [hz] at h
      simp only at h
      cases hf : flat z with
      | false => rw [hf] at h; simp at h
      | true =>
        rw [hf] at h
        simp only [Option.some.injEq, Prod.mk.injEq] at h
        obtain ⟨rfl, rfl⟩ := h
        refine ⟨_, _, ⟨w.heap.size, 0, 0, .nilFunc⟩, val (w' := { w with heap := w.heap.push (.cells z.cells e) }) (r := .pointer (some ⟨w.heap.size, 0, none⟩)) ?_, New.push w _, rfl, ?_⟩
        · simp [Instr.alloc, run_zeroValue w hz, newVar, newRow]
        · intro μ hμ
          refine ⟨row_new (cl := z.cells.toList) true (fun μ _ => map_flat (flat_cells hf) μ) μ hμ, ?_⟩
          simp [concAddr, at_ hμ]
  case box e x =>
    cases hx : ev (Cx.of P) tm x with
    | none => rw [hx] at h; simp at h
    | some v =>
      rw [hx] at h
      simp only [Option.some.injEq, Prod.mk.injEq] at h
      obtain ⟨rfl, rfl⟩ := h
      refine ⟨_, _, ⟨w.heap.size, 0, 0, .nilFunc⟩, val (w' := { w with heap := w.heap.push (.cells (ρ x).cells e) }) (r := .pointer (some ⟨w.heap.size, 0, none⟩)) ?_, New.push w _, rfl, ?_⟩
      · simp [Instr.box, newVar, newRow]
      · intro μ hμ
        refine ⟨row_new (cl := (ρ x).cells.toList) true (fun μ hμ => ?_) μ hμ, ?_⟩
        · rw [← hρ x v hx μ (up hμ), conc_cells_list]
        · simp [concAddr, at_ hμ]
  case buildSlice t len parts =>
    split at h <;> (try (simp at h; done))
    rename_i ps e hp hd
    cases hs : (Cx.of P).size e with
    | none => rw [hs] at h; simp at h
    | some n =>
      rw [hs] at h
      simp only at h
      cases hz : zeroN (Cx.of P) e n with
      | none => rw [hz] at h; simp at h
      | some z =>
        rw [hz] at h
        simp only at h
        split at h <;> (try (simp at h; done))
        rename_i l hb hf
        simp only [Option.some.injEq, Prod.mk.injEq] at h
        obtain ⟨rfl, rfl⟩ := h
        obtain ⟨zv, hzv, hzf, hzn, rfl⟩ := zeroN_spec hz
        simp only [Bool.and_eq_true] at hb
        have hb1 := Nat.le_of_ble_eq_true hb.1
        have hb2 := Nat.le_of_ble_eq_true hb.2
        have hμ0 := some0_ext m
        have hfl : ∀ μ, Ext m μ → Instr.fill (fun i => some (i * n, n)) ⟨rep len zv.cells.toList⟩ (parts.map fun (i, x) => (i, ρ x)).toList = some ⟨l.map (conc μ)⟩ := by
          intro μ hμ
          have e1 := evParts_map μ (fun x v hx => (hρ x v hx μ hμ).symm) hp
          have := fill_run μ _ _ _ _ hf
          rw [map_flat (flatL_rep (flat_cells hzf) len) μ] at this
          rw [← this]; congr 1; rw [← e1]; simp
        have hmade : ∀ zr : Array Value, (len * n = 0 ∨ zr = zv.cells) → (Array.range (len * n)).map (zr[· % zr.size]!) = ⟨rep len zv.cells.toList⟩ := by
          intro zr hzr
          rcases hzr with h0 | rfl
          · have hr : rep len zv.cells.toList = [] := by
              apply List.eq_nil_of_length_eq_zero
              rw [rep_length]; simp [hzn, h0]
            rw [hr, h0]; simp
          · rw [← hzn]; exact made_rep _ _
        refine ⟨_, _, ⟨w.heap.size, 0, 0, .nilFunc⟩, val (w' := { w with heap := w.heap.push (.cells ⟨l.map (conc (some0 m))⟩ e) }) (r := .slice (some ⟨w.heap.size, 0, none⟩) len len) ?_, New.push w _, rfl, ?_⟩
        · have hu := run_underlying w hd
          have hgt : ¬ (len * n > 2 ^ 24) := by have : (2 : Nat) ^ 24 = 16777216 := rfl; omega
          have hf0 := hfl _ hμ0
          simp only [Instr.buildSlice, Sem.run_bind, hu, Result.andThen_ok, run_sizeOf w hs]
          rw [if_neg hgt]
          by_cases h0 : len * n = 0
          · rw [if_pos h0]
            simp only [Sem.run_bind, Sem.run_pure, Result.andThen_ok]
            rw [hmade _ (.inl h0), hf0]
            simp [newRow]
          · rw [if_neg h0]
            simp only [Sem.run_bind, Sem.run_pure, Result.andThen_ok, run_zeroValue w hzv]
            rw [hmade _ (.inr rfl), hf0]
            simp [newRow]
        · intro μ hμ
          refine ⟨row_new true (fun μ hμ => ?_) μ hμ, ?_⟩
          · have a1 := hfl μ (up hμ)
            rw [hfl _ hμ0] at a1
            simpa using a1.symm
          · have : concCap μ id len = len := by
              unfold concCap; rw [if_neg]; rw [isOpen_iff]; omega
            simp [concAddr, at_ hμ, concEnd, this]
  case makeSlice t l c =>
    split at h <;> (try (simp at h; done))
    rename_i kl lv kc cv e hl hc hd
    cases hi : (Cx.of P).ty.get e with
    | none => rw [hi] at h; simp at h
    | some i =>
      rw [hi] at h
      simp only at h
      split at h <;> (try (simp at h; done))
      rename_i z hb hz
      simp only [Option.some.injEq, Prod.mk.injEq] at h
      obtain ⟨rfl, rfl⟩ := h
      simp only [decide_eq_true_eq] at hb
      obtain ⟨hb1, hb2, hb3, hb4⟩ := hb
      obtain ⟨zv, hzv, hzf, hzn, rfl⟩ := zeroN_spec hz
      have hzi : i.zero = some zv := by unfold Cx.zero at hzv; rw [hi] at hzv; exact hzv
      have hrun := run_make (P := P) w t e i zv (Cx.desc_under hd) (Cx.info hi) hzi kl kc lv cv hb1 hb2 (by omega) (by omega)
      have hmade : madeCells zv.cells (cv.toNat * i.size) = ⟨rep cv.toNat zv.cells.toList⟩ := by
        rw [← hzn]; exact made_rep _ _
      rw [hmade] at hrun
      have el : ρ l = .int kl lv := by rw [← hρ l _ hl _ (some0_ext m)]; simp
      have ec : ρ c = .int kc cv := by rw [← hρ c _ hc _ (some0_ext m)]; simp
      rw [el, ec]
      refine ⟨_, _, ⟨w.heap.size, 0, 0, .nilFunc⟩, val hrun, New.push w _, rfl, ?_⟩
      intro μ hμ
      refine ⟨row_new true (fun μ _ => map_flat (flatL_rep (flat_cells hzf) _) μ) μ hμ, ?_⟩
      have : concCap μ id cv.toNat = cv.toNat := by
        unfold concCap; rw [if_neg]; rw [isOpen_iff]; omega
      simp [concAddr, at_ hμ, concEnd, this]
  case makeMap t r =>
    cases r with
    | some x =>
      simp only at h
      split at h <;> (try (simp at h; done))
      rename_i hx hd
      simp only [Option.some.injEq, Prod.mk.injEq] at h
      obtain ⟨rfl, rfl⟩ := h
      have ex := hρ x _ hx _ (some0_ext m)
      simp only [conc_int] at ex
      refine ⟨_, _, ⟨w.heap.size, 0, 0, .nilFunc⟩, val (w' := { w with heap := w.heap.push (.map #[] 0) }) (r := .map (some w.heap.size)) ?_, New.push w _, rfl, ?_⟩
      · simp [Instr.makeMap, ← ex, run_underlying w hd, asInt, asIntOf]
      · intro μ hμ
        refine ⟨⟨⟨[], 0, ?_, List.Perm.refl _, by simp, by simp, by simp⟩, by simp⟩, by simp [at_ hμ]⟩
        rw [at_ hμ]; exact push_here w _
    | none =>
      simp only [Option.some.injEq, Prod.mk.injEq] at h
      obtain ⟨rfl, rfl⟩ := h
      refine ⟨_, _, ⟨w.heap.size, 0, 0, .nilFunc⟩, val (w' := { w with heap := w.heap.push (.map #[] 0) }) (r := .map (some w.heap.size)) ?_, New.push w _, rfl, ?_⟩
      · simp [Instr.makeMap]
      · intro μ hμ
        refine ⟨⟨⟨[], 0, ?_, List.Perm.refl _, by simp, by simp, by simp⟩, by simp⟩, by simp [at_ hμ]⟩
        rw [at_ hμ]; exact push_here w _
  case convert s d x =>
    split at h <;> (try (simp at h; done))
    rename_i b e sd hx hd hs
    split at h <;> (try (simp at h; done))
    rename_i he hsz
    split at h <;> (try (simp at h; done))
    rename_i hlen
    simp only [Option.some.injEq, Prod.mk.injEq] at h
    obtain ⟨rfl, rfl⟩ := h
    have hlen := Nat.le_of_ble_eq_true hlen
    have ex : ρ x = .string b := by rw [← hρ x _ hx _ (some0_ext m)]; simp
    rw [ex]
    let c := Question.cut (.appendCap b.size 0 e) (w.tape w.drawn (.appendCap b.size 0 e))
    have hc : b.size ≤ c ∧ c ≤ 9223372036854775807 := by
      simp only [c, Question.cut]
      have := Nat.mod_lt (w.tape w.drawn (.appendCap b.size 0 e)) (show 0 < 2 ^ 63 - b.size by omega)
      omega
    let cells : Array Value := (b.data.map fun b => .int .u8 b.toNat) ++ Array.replicate (c - b.size) (.int .u8 0)
    have hcells : cells.size = c := by
      simp only [cells, Array.size_append, Array.size_map, Array.size_replicate]
      have : b.data.size = b.size := rfl
      omega
    let w' : World := { w with heap := w.heap.push (.cells cells e (cells.size, cells.size + 1)), drawn := w.drawn + 1 }
    refine ⟨w', .slice (some ⟨w.heap.size, 0, none⟩) b.size c, ⟨w.heap.size, 0, c, .nilFunc⟩, val ?_, ?_, rfl, ?_⟩
    · have us := run_underlying w hs
      have ud := run_underlying w hd
      have ue := run_underlying w he
      have hconv : (convert s d (.string b)).run P w = (Conv.stringToBytes e b).run P w := by
        cases sd <;> simp [convert, us, ud, ue]
      rw [hconv]
      have hsh : ({ w with heap := w.heap.push (.cells cells e), drawn := w.drawn + 1 } : World).shape? w.heap.size = some (e, cells.size) := by
        simp [World.shape?]
      have hfz := freeze_push { w with drawn := w.drawn + 1 } cells e cells.size
      have hrun2 : (do markStringish ⟨w.heap.size, 0, none⟩; pure (.slice (some ⟨w.heap.size, 0, none⟩) b.size c) : Sem Value).run P { w with heap := w.heap.push (.cells cells e), drawn := w.drawn + 1 } =
          .ok (.slice (some ⟨w.heap.size, 0, none⟩) b.size c) w' := by
        simp only [markStringish, Sem.run_bind, run_shape, hsh, Result.andThen_ok, run_freeze, Sem.run_pure]
        rw [hfz]
      simp only [Conv.stringToBytes, Sem.run_bind, run_choose, Question.forced, Bool.false_eq_true, if_false, Result.andThen_ok, newRow, run_newObj, Sem.run_pure]
      simp only [Sem.run_bind, Sem.run_pure] at hrun2
      exact hrun2
    · exact ⟨by simp [w'], rfl, rfl, rfl, fun k hk => by simp only [w']; rw [Array.getElem?_push]; simp [Nat.ne_of_lt hk]⟩
    · intro μ hμ
      have hloc := at_ hμ
      refine ⟨⟨cells, _, (cells.size, cells.size + 1), ?_, ?_, ?_, ?_, ?_, fun _ => ⟨rfl, fun h => by first | (cases h; done) | rw [hloc] | rw [at_ hμ]⟩⟩, ?_⟩
      · rw [hloc]; simp [w']
      · rw [hloc, hcells]; simp; exact hc.1
      · intro j v hj _
        rw [hloc]
        simp only [List.getElem?_map, Option.map_eq_some_iff] at hj
        obtain ⟨u, hu, rfl⟩ := hj
        simp only [cells, Nat.zero_add, conc_int]
        have hj' : j < b.data.size := by
          have := (List.getElem?_eq_some_iff.1 hu).1
          simpa using this
        rw [Array.getElem?_append_left (by simpa using hj')]
        rw [Array.getElem?_map, ← Array.getElem?_toList, hu]; rfl
      · intro _ k hk; simp; omega
      · intro _ n hn
        rw [hsz] at hn
        simp only [Option.some.injEq] at hn
        subst hn
        rw [hloc]
        simp [hcells]
        exact ⟨hc.1, hc.2⟩
      · have : isOpen openCap = true := by rw [isOpen_iff]; decide
        simp [concAddr, hloc, concEnd, concCap, this]
  case range t x =>
    split at h <;> (try (simp at h; done))
    rename_i s hx hd
    simp only [Option.some.injEq, Prod.mk.injEq] at h
    obtain ⟨rfl, rfl⟩ := h
    have ex : ρ x = .string s := by rw [← hρ x _ hx _ (some0_ext m)]; simp
    rw [ex]
    have hu := run_underlying w hd
    refine ⟨_, _, ⟨w.heap.size, 0, 0, .nilFunc⟩, val (w' := { w with heap := w.heap.push (.stringIter s 0) }) (r := .pointer (some ⟨w.heap.size, 0, none⟩)) ?_, New.push w _, rfl, ?_⟩
    · simp [Instr.range, hu]
    · intro μ hμ
      have hloc := at_ hμ
      refine ⟨⟨?_, by rw [hloc]⟩, by simp [concAddr, hloc]⟩
      rw [hloc]; exact push_here w _

end
end Go.Ai
