/- The abstract interpreter and its soundness, part 4 of 5: by an AI agent. -/
import Derived.Test.YtgmojlibppmfhaaDoorAi3
import Derived.ProofKit
import Derived.LaidMore
import Derived.LaidHandle
import Derived.Stop.Joined
import Derived.ChangeMaps5

/-! The same interpreter, cut so that the kernel goes through it faster. -/
namespace Go.Ai
open Go
noncomputable section

/-! ### strings -/
theorem toListLoop_data (b : ByteArray) : ∀ (n i : Nat) (r : List UInt8), b.size - i = n → ByteArray.toList.loop b i r = r.reverse ++ b.data.toList.drop i := by
  intro n
  induction n with
  | zero =>
    intro i r h
    rw [ByteArray.toList.loop]
    rw [if_neg (by omega)]
    have : b.data.toList.length ≤ i := by
      have : b.data.toList.length = b.size := by rw [Array.length_toList]; rfl
      omega
    rw [List.drop_of_length_le this]; simp
  | succ n ih =>
    intro i r h
    rw [ByteArray.toList.loop]
    rw [if_pos (by omega), ih (i + 1) _ (by omega)]
    have hlt : i < b.data.toList.length := by
      have : b.data.toList.length = b.size := by rw [Array.length_toList]; rfl
      omega
    rw [List.drop_eq_getElem_cons hlt]
    have hget : b.get! i = b.data.toList[i] := by
      have h2 : i < b.data.size := by simpa using hlt
      show b.data[i]! = _
      rw [getElem!_pos b.data i h2]
      simp
    rw [hget]; simp
theorem toList_data (b : ByteArray) : b.toList = b.data.toList := by
  show ByteArray.toList.loop b 0 [] = _
  rw [toListLoop_data b _ 0 [] rfl]; simp

def beqBytes : List UInt8 → List UInt8 → Bool
  | [], [] => true
  | a :: x, b :: y => match Nat.beq a.toNat b.toNat with
    | true => beqBytes x y
    | false => false
  | _, _ => false
theorem beqBytes_eq : ∀ (x y : List UInt8), beqBytes x y = (x == y)
  | [], [] => rfl
  | [], _ :: _ => rfl
  | _ :: _, [] => rfl
  | a :: x, b :: y => by
    simp only [beqBytes]
    cases h : Nat.beq a.toNat b.toNat with
    | true =>
      have : a = b := UInt8.toNat_inj.1 (Nat.eq_of_beq_eq_true h)
      subst this
      simp [beqBytes_eq x y]
    | false =>
      have hne : a ≠ b := by rintro rfl; simp at h
      simp [hne]

/-! ### pure operations -/
def intF (op : BinOp) (k : IntKind) (x : Int) (k' : IntKind) (y : Int) : Option Value :=
  match op with
  | .add => match decide (k = k') with | true => some (.int k (k.wrap (x + y))) | false => none
  | .sub => match decide (k = k') with | true => some (.int k (k.wrap (x - y))) | false => none
  | .mul => match decide (k = k') with | true => some (.int k (k.wrap (x * y))) | false => none
  | .eql => match decide (k = k') with | true => some (.bool (decide (x = y))) | false => none
  | .neq => match decide (k = k') with | true => some (.bool (!decide (x = y))) | false => none
  | .lss => match decide (k = k') with | true => some (.bool (decide (x < y))) | false => none
  | .leq => match decide (k = k') with | true => some (.bool (decide (x ≤ y))) | false => none
  | .gtr => match decide (k = k') with | true => some (.bool (decide (x > y))) | false => none
  | .geq => match decide (k = k') with | true => some (.bool (decide (x ≥ y))) | false => none
  | .shl => match decide (y < 0) with | true => none | false => some (.int k (k.wrap (x * 2 ^ min y.toNat k.bits)))
  | .shr => match decide (y < 0) with | true => none | false => some (.int k (x.fdiv (2 ^ min y.toNat k.bits)))
  | .and => match decide (k = k') with | true => some (.int k (k.wrap (BitVec.ofInt k.bits x &&& BitVec.ofInt k.bits y).toNat)) | false => none
  | .or => match decide (k = k') with | true => some (.int k (k.wrap (BitVec.ofInt k.bits x ||| BitVec.ofInt k.bits y).toNat)) | false => none
  | .xor => match decide (k = k') with | true => some (.int k (k.wrap (BitVec.ofInt k.bits x ^^^ BitVec.ofInt k.bits y).toNat)) | false => none
  | .andNot => match decide (k = k') with | true => some (.int k (k.wrap (BitVec.ofInt k.bits x &&& ~~~BitVec.ofInt k.bits y).toNat)) | false => none
  | .quo => match decide (k = k') with
    | true => match decide (y = 0) with | true => none | false => some (.int k (k.wrap (x.tdiv y)))
    | false => none
  | .rem => match decide (k = k') with
    | true => match decide (y = 0) with | true => none | false => some (.int k (x.tmod y))
    | false => none

def slowBin (cx : Cx) (op : BinOp) (t : TypeId) (a b : Value) (x y : Operand) : Option Value :=
  match binOpA cx op t a b x y with
  | some v => some v
  | none => eqNilA cx op t a b
def strF (cx : Cx) (op : BinOp) (t : TypeId) (s u : ByteArray) (x y : Operand) : Option Value :=
  match op with
  | .eql => some (.bool (beqBytes s.data.toList u.data.toList))
  | .neq => some (.bool (!beqBytes s.data.toList u.data.toList))
  | _ => slowBin cx op t (.string s) (.string u) x y
def binF (cx : Cx) (op : BinOp) (t : TypeId) (a b : Value) (x y : Operand) : Option Value :=
  match a, b with
  | .int k n, .int k' m => intF op k n k' m
  | .string s, .string u => strF cx op t s u x y
  | _, _ => slowBin cx op t a b x y

theorem flat_int (k : IntKind) (n : Int) : flat (.int k n) = true := by simp [flat]
theorem flat_bool (b : Bool) : flat (.bool b) = true := by simp [flat]

theorem quietFlat_pure {P : Program} {v : Value} (h : flat v = true) : quietFlat P (.pure v) = some v := by
  simp [quietFlat, quiet, h]

theorem quiet_panic (P : Program) (s : String) : quietFlat P (runtimePanic (α := Value) (.error s)) = none := rfl

theorem eqNil_int {cx : Cx} {op : BinOp} {t : TypeId} {k k' : IntKind} {n m : Int} : eqNilA cx op t (.int k n) (.int k' m) = none := by
  unfold eqNilA
  cases cx.desc t with
  | none => rfl
  | some d => cases d <;> rfl

theorem intF_eq {cx : Cx} {op : BinOp} {t : TypeId} {k k' : IntKind} {n m : Int} {x y : Operand} : intF op k n k' m = slowBin cx op t (.int k n) (.int k' m) x y := by
  have slow : ∀ {r : Option Value}, binOpA cx op t (.int k n) (.int k' m) x y = r → slowBin cx op t (.int k n) (.int k' m) x y = r := by
    intro r h
    unfold slowBin
    rw [h]
    cases r with
    | none => exact eqNil_int
    | some v => rfl
  refine (slow ?_).symm
  by_cases hk : k = k'
  · subst hk
    cases op
    case add => simp [binOpA, binInt, intF]
    case sub => simp [binOpA, binInt, intF]
    case mul => simp [binOpA, binInt, intF]
    case eql => simp [binOpA, binInt, intF]; rfl
    case neq => simp [binOpA, binInt, intF, bne]; rfl
    case lss => simp [binOpA, binInt, intF]
    case leq => simp [binOpA, binInt, intF]
    case gtr => simp [binOpA, binInt, intF]
    case geq => simp [binOpA, binInt, intF]
    case shl =>
      simp only [binOpA, binOp, Op.shift, intF]
      by_cases hy : m < 0
      · simp only [hy, if_true, decide_true]; exact quiet_panic _ _
      · simp only [hy, if_false, decide_false]; exact quietFlat_pure (flat_int _ _)
    case shr =>
      simp only [binOpA, binOp, Op.shift, intF]
      by_cases hy : m < 0
      · simp only [hy, if_true, decide_true]; exact quiet_panic _ _
      · simp only [hy, if_false, decide_false]; exact quietFlat_pure (flat_int _ _)
    case and => simp only [binOpA, binOp, Op.intBits, intF, ne_eq, not_true_eq_false, if_false, decide_true]; exact quietFlat_pure (flat_int _ _)
    case or => simp only [binOpA, binOp, Op.intBits, intF, ne_eq, not_true_eq_false, if_false, decide_true]; exact quietFlat_pure (flat_int _ _)
    case xor => simp only [binOpA, binOp, Op.intBits, intF, ne_eq, not_true_eq_false, if_false, decide_true]; exact quietFlat_pure (flat_int _ _)
    case andNot => simp only [binOpA, binOp, Op.intBits, intF, ne_eq, not_true_eq_false, if_false, decide_true]; exact quietFlat_pure (flat_int _ _)
    case quo =>
      simp only [binOpA, binOp, Op.intDiv, intF, ne_eq, not_true_eq_false, if_false, decide_true]
      by_cases hy : m = 0
      · simp only [hy, if_true, decide_true]; exact quiet_panic _ _
      · simp only [hy, if_false, decide_false]; exact quietFlat_pure (flat_int _ _)
    case rem =>
      simp only [binOpA, binOp, Op.intDiv, intF, ne_eq, not_true_eq_false, if_false, decide_true]
      by_cases hy : m = 0
      · simp only [hy, if_true, decide_true]; exact quiet_panic _ _
      · simp only [hy, if_false, decide_false]; exact quietFlat_pure (flat_int _ _)
  · cases op
    case shl =>
      simp only [binOpA, binOp, Op.shift, intF]
      by_cases hy : m < 0
      · simp only [hy, if_true, decide_true]; exact quiet_panic _ _
      · simp only [hy, if_false, decide_false]; exact quietFlat_pure (flat_int _ _)
    case shr =>
      simp only [binOpA, binOp, Op.shift, intF]
      by_cases hy : m < 0
      · simp only [hy, if_true, decide_true]; exact quiet_panic _ _
      · simp only [hy, if_false, decide_false]; exact quietFlat_pure (flat_int _ _)
    all_goals simp [binOpA, intF, hk, binOp, quietFlat, quiet, stuck]

theorem strF_eq {cx : Cx} {op : BinOp} {t : TypeId} {s u : ByteArray} {x y : Operand} : strF cx op t s u x y = slowBin cx op t (.string s) (.string u) x y := by
  have e : ∀ (op : BinOp), (do eqGuard op t x y (.string s) (.string u); binOp op t (.string s) (.string u) : Sem Value) = binOp op t (.string s) (.string u) := by
    intro op
    cases op <;> rfl
  cases op <;> try rfl
  · show some _ = slowBin cx .eql t (.string s) (.string u) x y
    unfold slowBin binOpA
    simp only [flat, Bool.and_true, e]
    have : binOp .eql t (.string s) (.string u) = .pure (.bool (s.toList == u.toList)) := rfl
    rw [this, quietFlat_pure (flat_bool _), beqBytes_eq, toList_data, toList_data]
  · show some _ = slowBin cx .neq t (.string s) (.string u) x y
    unfold slowBin binOpA
    simp only [flat, Bool.and_true, e]
    have : binOp .neq t (.string s) (.string u) = .pure (.bool !(s.toList == u.toList)) := rfl
    rw [this, quietFlat_pure (flat_bool _), beqBytes_eq, toList_data, toList_data]

theorem binF_eq {cx : Cx} {op : BinOp} {t : TypeId} {a b : Value} {x y : Operand} : binF cx op t a b x y = slowBin cx op t a b x y := by
  unfold binF
  split
  · exact intF_eq
  · exact strF_eq
  · rfl

end
end Go.Ai

/-! The same interpreter, cut so that the kernel goes through it faster: operations, code. -/
namespace Go.Ai
open Go
noncomputable section

def fPick (cx : Cx) (tm : T Value) (c a b : Operand) : Option Value := match ev cx tm c with
  | some (.bool true) => ev cx tm a
  | some (.bool false) => ev cx tm b
  | _ => none
def fNil (cx : Cx) (tm : T Value) (x : Operand) : Option Value := match ev cx tm x with
  | some (.pointer (some a)) => some (.pointer (some a))
  | some (.func (.func f) a b) => some (.func (.func f) a b)
  | some (.iface t v) => some (.iface t v)
  | _ => none
def fBin (cx : Cx) (tm : T Value) (op : BinOp) (t : TypeId) (x y : Operand) : Option Value := match ev cx tm x with
  | some a => match ev cx tm y with
    | some b => binF cx op t a b x y
    | none => none
  | none => none
def fUn (cx : Cx) (tm : T Value) (op : UnOp) (x : Operand) : Option Value := match ev cx tm x with
  | some (.bool b) => match op with
    | .not => some (.bool (!b))
    | _ => none
  | some v => match flat v with
    | true => quietFlat cx.P (Op.unary op v)
    | false => none
  | none => none
def fConv (cx : Cx) (tm : T Value) (s d : TypeId) (x : Operand) : Option Value := match ev cx tm x with
  | some (.int k n) => match cx.desc d, cx.desc s with
    | some (.int k'), some (.int _) => some (.int k' (k'.wrap n))
    | _, _ => quietFlat cx.P (convert s d (.int k n))
  | some (.string b) => match cx.desc d, cx.desc s with
    | some .string, some .string => some (.string b)
    | _, _ => none
  | some v => match flat v with
    | true => quietFlat cx.P (convert s d v)
    | false => none
  | none => none
def fIface (cx : Cx) (tm : T Value) (t : TypeId) (x : Operand) : Option Value := match cx.desc t with
  | some (.interface _) => none
  | some _ => match ev cx tm x with
    | some v => some (.iface t v)
    | none => none
  | none => none
def fFunc (cx : Cx) (tm : T Value) (fn : Fn) (first captured : Array Operand) : Option Value := match evs cx tm first.toList, evs cx tm captured.toList with
  | some a, some b => match fn with
    | .yield _ => none
    | _ => some (.func fn ⟨a⟩ ⟨b⟩)
  | _, _ => none
def fField (cx : Cx) (tm : T Value) (t : TypeId) (x : Operand) (f : Nat) : Option Value := match ev cx tm x with
  | some (.agg cs) => match cx.desc t with
    | some (.struct fields) => match fields[f]? with
      | some fd => partA cx fd.type cs.toList fd.offset
      | none => none
    | _ => none
  | _ => none
def fIndex (cx : Cx) (tm : T Value) (t : TypeId) (x i : Operand) : Option Value := match ev cx tm x with
  | some a => match ev cx tm i with
    | some b => indexA cx t a b
    | none => none
  | none => none
def fExtract (cx : Cx) (tm : T Value) (x : Operand) (i : Nat) : Option Value := match ev cx tm x with
  | some (.tuple vs) => vs.toList[i]?
  | _ => none
def fFieldAddr (cx : Cx) (tm : T Value) (t : TypeId) (x : Operand) (f : Nat) : Option Value := match ev cx tm x with
  | some (.pointer (some a)) => match cx.desc t with
    | some (.struct fields) => match fields[f]? with
      | some fd => match cx.size fd.type with
        | some (_ + 1) => some (.pointer (some (a.add fd.offset)))
        | _ => none
      | none => none
    | _ => none
  | _ => none
def fIndexAddr (cx : Cx) (tm : T Value) (t : TypeId) (x i : Operand) : Option Value := match ev cx tm x with
  | some a => match ev cx tm i with
    | some b => indexAddrA cx t a b
    | none => none
  | none => none
def fSlice (cx : Cx) (tm : T Value) (t : TypeId) (x : Operand) (lo hi mx : Option Operand) : Option Value := match mx with
  | some _ => none
  | none => match ev cx tm x with
    | some a => match opt cx tm lo with
      | some l => match opt cx tm hi with
        | some h => sliceP cx t a l h
        | none => none
      | none => none
    | none => none
def fAssert (cx : Cx) (tm : T Value) (x : Operand) (t : TypeId) (ok : Bool) : Option Value := match ev cx tm x with
  | some v => typeAssertA cx v t ok
  | none => none
def fBuild (cx : Cx) (tm : T Value) (t : TypeId) (parts : Array (Nat × Operand)) : Option Value := match evParts cx tm parts.toList with
  | some ps => buildA cx t ps
  | none => none

/-- pureOp -/
def pureF (cx : Cx) (tm : T Value) : Op → Option Value
  | .move x => ev cx tm x
  | .assign x => ev cx tm x
  | .pick c a b => fPick cx tm c a b
  | .nilCheck x => fNil cx tm x
  | .binOp op t x y _ => fBin cx tm op t x y
  | .unOp op _ x => fUn cx tm op x
  | .convert s d x => fConv cx tm s d x
  | .makeInterface t x => fIface cx tm t x
  | .makeFunc fn first captured => fFunc cx tm fn first captured
  | .field t x f => fField cx tm t x f
  | .index t x i => fIndex cx tm t x i
  | .extract x i => fExtract cx tm x i
  | .fieldAddr t x f => fFieldAddr cx tm t x f
  | .indexAddr t x i => fIndexAddr cx tm t x i
  | .slice t x lo hi mx => fSlice cx tm t x lo hi mx
  | .typeAssert x _ t ok => fAssert cx tm x t ok
  | .build t parts => fBuild cx tm t parts
  | .call c => pureCall cx tm c
  | _ => none

theorem pureF_eq (cx : Cx) (tm : T Value) (op : Op) : pureF cx tm op = pureOp cx tm op := by
  cases op <;> try rfl
  case binOp op t x y u =>
    simp only [pureF, pureOp, fBin]
    cases ev cx tm x with
    | none => rfl
    | some a =>
      cases ev cx tm y with
      | none => rfl
      | some b => simp only [binF_eq]; rfl

/-! reading -/
def rLoad (cx : Cx) (tm : T Value) (st : St) (t : TypeId) (x : Operand) : Option Value := match ev cx tm x with
  | some (.pointer (some a)) => match cx.isAgg t, cx.size t with
    | some true, some n => match readCells st a n with
      | some l => some (.agg ⟨l⟩)
      | none => none
    | some false, some _ => match readCells st a 1 with
      | some [v] => some v
      | _ => none
    | _, _ => none
  | _ => none
def readF (cx : Cx) (tm : T Value) (st : St) (op : Op) : Option Value :=
  match op with
  | .load t x => rLoad cx tm st t x
  | op => readOp cx tm st op
theorem readF_eq (cx : Cx) (tm : T Value) (st : St) (op : Op) : readF cx tm st op = readOp cx tm st op := by
  cases op <;> rfl

/-! what an operation does, by sight -/
def kRange (cx : Cx) (t : TypeId) : Kind := match cx.desc t with
  | some .string => .alloc
  | _ => .heavy
def kConv (cx : Cx) (s d : TypeId) : Kind := match cx.desc s, cx.desc d with
  | some .string, some (.slice _) => .alloc
  | some (.slice _), some .string => .read
  | some (.pointer _), some .unsafePointer => .read
  | some .unsafePointer, some (.pointer _) => .read
  | _, _ => .pure
def kSlice (cx : Cx) (t : TypeId) : Kind := match cx.desc t with
  | some (.slice _) => .read
  | _ => .pure
def kCall (cx : Cx) (c : Call) : Kind := match c.callee with
  | .builtin b => match b with
    | .len => match c.argTypes.toList with
      | [t] => match cx.desc t with
        | some (.map _ _) => .read
        | _ => .pure
      | _ => .pure
    | .cap | .min | .max => .pure
    | _ => .heavy
  | _ => .heavy
def kindF (cx : Cx) : Op → Kind
  | .alloc _ | .box .. | .buildSlice .. | .makeSlice .. | .makeMap .. => .alloc
  | .range t _ => kRange cx t
  | .convert s d _ => kConv cx s d
  | .load .. | .lookup .. => .read
  | .slice t _ _ _ _ => kSlice cx t
  | .store .. | .mapUpdate .. | .insert .. | .next .. | .mapEntry .. | .entryStore .. | .entry .. => .heavy
  | .call c => kCall cx c
  | _ => .pure
theorem kindF_eq (cx : Cx) (op : Op) : kindF cx op = kindOf cx op := by
  cases op <;> rfl

def hStore (cx : Cx) (tm : T Value) (st : St) (t : TypeId) (x y : Operand) : Option (Value × St) := match ev cx tm x, ev cx tm y with
  | some (.pointer (some a)), some v => match cx.size t with
    | some n => match Nat.beq v.cells.size n with
      | true => match writeCells st a v.cells.toList with
        | some st' => some (undef, st')
        | none => none
      | false => none
    | none => none
  | _, _ => none
def heavyF (cx : Cx) (tm : T Value) (st : St) (op : Op) : Option (Value × St) :=
  match op with
  | .store t x y => hStore cx tm st t x y
  | op => heavyOp cx tm st op
theorem heavyF_eq (cx : Cx) (tm : T Value) (st : St) (op : Op) : heavyF cx tm st op = heavyOp cx tm st op := by
  cases op <;> rfl

/-! a call of a Go function is no builtin: not tried as one -/
def isVal (op : Op) : Bool :=
  match op with
  | .call c => match c.callee with
    | .value _ => true
    | _ => false
  | _ => false
theorem isVal_heavy {cx : Cx} {tm : T Value} {st : St} {op : Op} (h : isVal op = true) : heavyOp cx tm st op = none := by
  cases op <;> simp only [isVal] at h <;> (try (cases h; done))
  rename_i c
  split at h
  · rename_i f hc
    simp [heavyOp, heavyCall, hc]
  · cases h

def fPure (st : St) : Option Value → Option (Value × St)
  | some v => some (v, st)
  | none => none
def fAlloc (st : St) : Option (AObj × (Nat → Value)) → Option (Value × St)
  | some (ob, f) => some (f st.ct, ⟨st.hp.set st.ct ob, st.ct + 1⟩)
  | none => none
def fHeavy (cx : Cx) (ov : Ov) (ih : CodeRun) (tm : T Value) (st : St) (op : Op) : Option (Value × St) :=
  match isVal op with
  | true => callOp cx ov ih tm st op
  | false => match heavyF cx tm st op with
    | some r => some r
    | none => none

def opF (cx : Cx) (ov : Ov) (ih : CodeRun) (tm : T Value) (st : St) (o : Oper) : Option (Value × St) :=
  match kindF cx o.op with
  | .pure => fPure st (pureF cx tm o.op)
  | .alloc => fAlloc st (allocOp cx tm o.op)
  | .read => fPure st (readF cx tm st o.op)
  | .heavy => fHeavy cx ov ih tm st o.op

theorem opF_eq (cx : Cx) (ov : Ov) (ih : CodeRun) (tm : T Value) (st : St) (o : Oper) : opF cx ov ih tm st o = opA cx ov ih tm st o := by
  unfold opF opA
  rw [kindF_eq]
  cases kindOf cx o.op with
  | pure => simp only [pureF_eq]; cases pureOp cx tm o.op <;> rfl
  | alloc => cases allocOp cx tm o.op <;> rfl
  | read => simp only [readF_eq]; cases readOp cx tm st o.op <;> rfl
  | heavy =>
    simp only [fHeavy, heavyF_eq]
    cases hv : isVal o.op with
    | true => simp only [isVal_heavy hv]
    | false =>
      cases hh : heavyOp cx tm st o.op with
      | some r => rfl
      | none =>
        simp only
        unfold callOp
        split
        · rename_i c hc
          split
          · rename_i f hf
            rw [hc] at hv
            simp [isVal, hf] at hv
          · rfl
        · rfl

def opsF (cx : Cx) (ov : Ov) (ih : CodeRun) (nt : Nat) (all : List Oper) : List Oper → T Value → St → Option (T Value × St)
  | [], tm, st => some (tm, st)
  | o :: l, tm, st => match wantedA all tm o with
    | some true => match opF cx ov ih tm st o with
      | some (v, st') => match putDst nt tm o.dst v with
        | some tm' => opsF cx ov ih nt all l tm' st'
        | none => none
      | none => none
    | some false => match putDst nt tm o.dst undef with
      | some tm' => opsF cx ov ih nt all l tm' st
      | none => none
    | none => none

theorem opsF_eq (cx : Cx) (ov : Ov) (ih : CodeRun) (nt : Nat) (all : List Oper) : ∀ (l : List Oper) (tm : T Value) (st : St), opsF cx ov ih nt all l tm st = opsA cx ov ih nt all l tm st := by
  intro l
  induction l with
  | nil => intro tm st; rfl
  | cons o l ihl =>
    intro tm st
    simp only [opsF, opsA, opF_eq, ihl]
    rfl

/-! regions whose order is open -/
def dAlloc (nt : Nat) (i : Nat) (o : Oper) (ds : DS) : Option (AObj × (Nat → Value)) → Option DS
  | some (ob, f) => putD nt { ds with st := ⟨ds.st.hp, ds.st.ct + 1⟩, pend := (i, ds.st.ct, ob) :: ds.pend } o.dst (f ds.st.ct)
  | none => none
def dPure (nt : Nat) (o : Oper) (ds : DS) : Option Value → Option DS
  | some v => putD nt ds o.dst v
  | none => none
def dRead (cx : Cx) (nt bef i : Nat) (lt : T Value) (o : Oper) (ds : DS) : Option Value → Option DS
  | some v => match pastOk cx bef lt o.op v ds.past with
    | true => putD nt { ds with reads := (i, lt, o.op, v) :: ds.reads } o.dst v
    | false => none
  | none => none
def dHeavy (cx : Cx) (nt bef i : Nat) (befs : List Nat) (o : Oper) (ds : DS) : Option (Value × St) → Option DS
  | some (v, st') => match readsOk cx befs bef st'.hp (restP bef ds.pend) ds.reads with
    | true => putD nt { ds with st := st', pend := restP bef ds.pend, past := (i, ds.st.hp, ds.pend) :: ds.past } o.dst v
    | false => none
  | none => none

def stepDF (cx : Cx) (ov : Ov) (ih : CodeRun) (nt : Nat) (all : List Oper) (befs : List Nat) (i : Nat) (o : Oper) (ds : DS) : Option DS :=
  match wantedA all (limit ds.tm (looks all o)) o with
  | none => none
  | some false => putD nt ds o.dst undef
  | some true => match kindF cx o.op with
    | .pure => dPure nt o ds (pureF cx (limit ds.tm (looks all o)) o.op)
    | .alloc => dAlloc nt i o ds (allocOp cx (limit ds.tm (looks all o)) o.op)
    | .read => dRead cx nt (befs.getD i 0) i (limit ds.tm (looks all o)) o ds (readAt cx (limit ds.tm (looks all o)) ds.st.hp ds.pend (befs.getD i 0) o.op)
    | .heavy => dHeavy cx nt (befs.getD i 0) i befs o ds (opF cx ov ih (limit ds.tm (looks all o)) ⟨mergeP (befs.getD i 0) ds.pend ds.st.hp, ds.st.ct⟩ o)

theorem stepDF_eq (cx : Cx) (ov : Ov) (ih : CodeRun) (nt : Nat) (all : List Oper) (befs : List Nat) (i : Nat) (o : Oper) (ds : DS) : stepDF cx ov ih nt all befs i o ds = stepD cx ov ih nt all befs i o ds := by
  unfold stepDF stepD
  simp only [kindF_eq, pureF_eq, opF_eq]
  cases wantedA all (limit ds.tm (looks all o)) o with
  | none => rfl
  | some b =>
    cases b with
    | false => rfl
    | true =>
      simp only
      cases kindOf cx o.op with
      | pure => simp only; cases pureOp cx (limit ds.tm (looks all o)) o.op <;> rfl
      | alloc => simp only; cases allocOp cx (limit ds.tm (looks all o)) o.op <;> rfl
      | read => simp only; cases readAt cx (limit ds.tm (looks all o)) ds.st.hp ds.pend (befs.getD i 0) o.op <;> rfl
      | heavy => simp only; cases opA cx ov ih (limit ds.tm (looks all o)) ⟨mergeP (befs.getD i 0) ds.pend ds.st.hp, ds.st.ct⟩ o <;> rfl

def stepsDF (cx : Cx) (ov : Ov) (ih : CodeRun) (nt : Nat) (all : List Oper) (befs : List Nat) : Nat → List Oper → DS → Option DS
  | _, [], ds => some ds
  | i, o :: l, ds => match stepDF cx ov ih nt all befs i o ds with
    | some ds' => stepsDF cx ov ih nt all befs (i + 1) l ds'
    | none => none
theorem stepsDF_eq (cx : Cx) (ov : Ov) (ih : CodeRun) (nt : Nat) (all : List Oper) (befs : List Nat) : ∀ (l : List Oper) (i : Nat) (ds : DS), stepsDF cx ov ih nt all befs i l ds = stepsD cx ov ih nt all befs i l ds := by
  intro l
  induction l with
  | nil => intro i ds; rfl
  | cons o l ihl => intro i ds; simp only [stepsDF, stepsD, stepDF_eq, ihl]; rfl

def drawF (cx : Cx) (ov : Ov) (ih : CodeRun) (nt : Nat) (all : List Oper) (tm : T Value) (st : St) : Option (T Value × St) :=
  match drawOk cx all with
  | true => match stepsDF cx ov ih nt all (befsOf all []) 0 all ⟨tm, st, [], [], []⟩ with
    | some ds => some (ds.tm, ⟨mergeAll ds.pend ds.st.hp, ds.st.ct⟩)
    | none => none
  | false => none
theorem drawF_eq (cx : Cx) (ov : Ov) (ih : CodeRun) (nt : Nat) (all : List Oper) (tm : T Value) (st : St) : drawF cx ov ih nt all tm st = drawA cx ov ih nt all tm st := by
  unfold drawF drawA
  simp only [stepsDF_eq]
  rfl

/-! code -/
def cSeq (ih : CodeRun) (b : Code) (nt : Nat) : Option (Ex × T Value × St) → Option (Ex × T Value × St)
  | some (ex, tm', st') => match ex with
    | .normal => ih b nt tm' st'
    | _ => some (ex, tm', st')
  | none => none
def cCond (ih : CodeRun) (a b : Code) (nt : Nat) (tm : T Value) (st : St) : Option Value → Option (Ex × T Value × St)
  | some (.bool true) => ih a nt tm st
  | some (.bool false) => ih b nt tm st
  | _ => none
def cBlock (id : Nat) : Option (Ex × T Value × St) → Option (Ex × T Value × St)
  | some (ex, tm', st') => match ex with
    | .exit id' => match Nat.beq id' id with
      | true => some (.normal, tm', st')
      | false => some (.exit id', tm', st')
    | _ => some (ex, tm', st')
  | none => none
def cLoop (cx : Cx) (ov : Ov) (ih : CodeRun) (a : Code) (nt : Nat) (tm : T Value) (st : St) : Option MapLoop → Option (Ex × T Value × St)
  | some L => loopM cx ov ih a L nt tm st
  | none => cSeq ih (.loop a) nt (ih a nt tm st)
def cLp (cx : Cx) (ov : Ov) (ih : CodeRun) (a : Code) (nt : Nat) (tm : T Value) (st : St) : Option (Nat → T Value → St → Option (Ex × T Value × St)) → Option (Ex × T Value × St)
  | some g => g nt tm st
  | none => cLoop cx ov ih a nt tm st (mapLoop a)
def cRegion : Option (T Value × St) → Option (Ex × T Value × St)
  | some (tm', st') => some (.normal, tm', st')
  | none => none

def stepF (cx : Cx) (ov : Ov) (ih : CodeRun) : CodeRun := fun c nt tm st =>
  match c with
  | .skip => some (.normal, tm, st)
  | .label _ => some (.normal, tm, st)
  | .ret => some (.ret, tm, st)
  | .exit id => some (.exit id, tm, st)
  | .goto l => some (.goto l, tm, st)
  | .scope a => scopeA ih a nt 100000 a tm st
  | .rangeFunc f ps assign body => rangeA cx ov ih f ps.toList assign body nt tm st
  | .seq a b => cSeq ih b nt (ih a nt tm st)
  | .cond x a b => cCond ih a b nt tm st (ev cx tm x)
  | .block id a => cBlock id (ih a nt tm st)
  | .loop a => cLp cx ov ih a nt tm st (ov.lp a)
  | .region _ ops draw => match draw with
    | false => cRegion (opsF cx ov ih nt ops.toList ops.toList tm st)
    | true => cRegion (drawF cx ov ih nt ops.toList tm st)
  | _ => none

theorem stepF_eq (cx : Cx) (ov : Ov) (ih : CodeRun) : stepF cx ov ih = stepA cx ov ih := by
  funext c nt tm st
  cases c <;> try rfl
  case region id ops draw =>
    cases draw with
    | false => simp only [stepF, stepA, opsF_eq]; cases opsA cx ov ih nt ops.toList ops.toList tm st <;> rfl
    | true => simp only [stepF, stepA, drawF_eq]; cases drawA cx ov ih nt ops.toList tm st <;> rfl

def runF (cx : Cx) (ov : Ov) : Nat → CodeRun
  | 0 => fun _ _ _ _ => none
  | n + 1 => stepF cx ov (runF cx ov n)
theorem runF_eq (cx : Cx) (ov : Ov) : ∀ n, runF cx ov n = run cx ov n := by
  intro n
  induction n with
  | zero => rfl
  | succ n ih => simp only [runF, run, ih, stepF_eq]

def callF (cx : Cx) (ov : Ov) (n : Nat) (f : Nat) (args : List Value) (st : St) : Option (Value × St) := callA cx ov (runF cx ov n) f args st
theorem callF_eq (cx : Cx) (ov : Ov) (n f : Nat) (args : List Value) (st : St) : callF cx ov n f args st = call cx ov n f args st := by
  unfold callF call
  rw [runF_eq]

/-- memoOk by the faster one -/
def memoF (cx : Cx) (ov : Ov) (n : Nat) (st0 : St) (e : Memo) : Bool :=
  flatL e.args && flat e.v && Nat.ble cx.ng st0.ct && keepOk st0.ct st0.hp e.ids && match callF cx ov n e.f e.args ⟨keepIds st0.hp e.ids, st0.ct⟩ with
    | some (v, _) => beqV e.v v
    | none => false
theorem memoF_ok {cx : Cx} {ov : Ov} {n : Nat} {st0 : St} {e : Memo} (h : memoF cx ov n st0 e = true) : memoOk cx ov n st0 e = true := by
  unfold memoF at h
  rw [callF_eq] at h
  exact h

end
end Go.Ai

/-! Calls whose results are known already, with what lies in memory: the arguments' rows are matched, what is made is laid. -/
namespace Go.Ai
open Go
noncomputable section

mutual
/-- ids turned into ids -/
def ren (ρ : Nat → Nat) : Value → Value
  | .pointer a => match a with | none => .pointer none | some a => .pointer (some ⟨ρ a.block, a.off, a.spot⟩)
  | .slice a n c => match a with | none => .slice none n c | some a => .slice (some ⟨ρ a.block, a.off, a.spot⟩) n c
  | .map r => match r with | none => .map none | some r => .map (some (ρ r))
  | .chan r => match r with | none => .chan none | some r => .chan (some (ρ r))
  | .func fn a b => .func (match fn with | .yield l => .yield (ρ l) | fn => fn) (renA ρ a) (renA ρ b)
  | .iface t v => .iface t (ren ρ v)
  | .agg cs => .agg (renA ρ cs)
  | .tuple cs => .tuple (renA ρ cs)
  | .bool b => .bool b
  | .int k n => .int k n
  | .float k n => .float k n
  | .complex k n m => .complex k n m
  | .string s => .string s
  | .nilFunc => .nilFunc
  | .nilIface => .nilIface
def renA (ρ : Nat → Nat) : Array Value → Array Value
  | ⟨l⟩ => ⟨renL ρ l⟩
def renL (ρ : Nat → Nat) : List Value → List Value
  | [] => []
  | v :: l => ren ρ v :: renL ρ l
end
def renE (ρ : Nat → Nat) : List MapEntry → List MapEntry
  | [] => []
  | e :: l => { key := e.key, val := ren ρ e.val, born := e.born } :: renE ρ l
def renO (ρ : Nat → Nat) : AObj → AObj
  | .row e cs o wr => .row e (renL ρ cs) o wr
  | .map es lk wr => .map (renE ρ es) lk wr
  | o => o

mutual
/-- all ids are of these -/
def inIds (p : Nat → Bool) : Value → Bool
  | .pointer a => match a with | none => true | some a => p a.block
  | .slice a _ _ => match a with | none => true | some a => p a.block
  | .map r => match r with | none => true | some r => p r
  | .chan r => match r with | none => true | some r => p r
  | .func fn a b => (match fn with | .yield _ => false | _ => true) && inIdsA p a && inIdsA p b
  | .iface _ v => inIds p v
  | .agg cs => inIdsA p cs
  | .tuple cs => inIdsA p cs
  | _ => true
def inIdsA (p : Nat → Bool) : Array Value → Bool
  | ⟨l⟩ => inIdsL p l
def inIdsL (p : Nat → Bool) : List Value → Bool
  | [] => true
  | v :: l => inIds p v && inIdsL p l
end
def inIdsE (p : Nat → Bool) : List MapEntry → Bool
  | [] => true
  | e :: l => inIds p e.val && inIdsE p l
/-- a row or a map that nothing may write, of these ids -/
def frozenIn (p : Nat → Bool) : AObj → Bool
  | .row _ cs _ wr => !wr && inIdsL p cs
  | .map es _ wr => !wr && inIdsE p es
  | _ => false

/-- the same, but that the second may be written -/
def likeO : AObj → AObj → Bool
  | .row e cs o _, .row e' cs' o' _ => Nat.beq e e' && beqVL cs cs' && decide (o = o')
  | .map es lk _, .map es' lk' _ => beqE es es' && decide (lk = lk')
  | _, _ => false
def sameO : AObj → AObj → Bool
  | .row e cs o wr, .row e' cs' o' wr' => Nat.beq e e' && beqVL cs cs' && decide (o = o') && decide (wr = wr')
  | .map es lk wr, .map es' lk' wr' => beqE es es' && decide (lk = lk') && decide (wr = wr')
  | _, _ => false

abbrev Objs := List (Nat × AObj)
structure HMemo where
  f : Nat
  args : List Value
  objs : Objs
  /-- the ids of what is made: from here on, up to there -/
  n0 : Nat
  n1 : Nat
  v : Value
  news : Objs
  /-- the laid objects that are looked at -/
  ids : List Nat

def hasKey : Objs → Nat → Bool
  | [], _ => false
  | x :: l, i => Nat.beq x.1 i || hasKey l i
def okId (b : Nat) (l : Objs) (i : Nat) : Bool := Nat.blt i b || hasKey l i
def over0 (hp : T AObj) : Objs → T AObj
  | [] => hp
  | x :: l => (over0 hp l).set x.1 x.2
def objsOk (b n0 : Nat) (p : Nat → Bool) : Objs → Bool
  | [] => true
  | x :: l => Nat.ble b x.1 && Nat.blt x.1 n0 && frozenIn p x.2 && objsOk b n0 p l
def newsOk (n0 n1 : Nat) (hp : T AObj) : Objs → Bool
  | [] => true
  | x :: l => Nat.ble n0 x.1 && Nat.blt x.1 n1 && x.2.isWr && (match hp.get x.1 with | some o => sameO x.2 o | none => false) && newsOk n0 n1 hp l

def hmemoOk (cx : Cx) (ov : Ov) (n : Nat) (st0 : St) (e : HMemo) : Bool :=
  Nat.ble cx.ng st0.ct && Nat.ble st0.ct e.n0 && keepOk st0.ct st0.hp e.ids && objsOk st0.ct e.n0 (okId st0.ct e.objs) e.objs && inIdsL (okId st0.ct e.objs) e.args &&
  match callF cx ov n e.f e.args ⟨over0 (keepIds st0.hp e.ids) e.objs, e.n0⟩ with
    | some (v, st) => beqV e.v v && Nat.beq e.n1 st.ct && Nat.ble e.n0 e.n1 && newsOk e.n0 e.n1 st.hp e.news
    | none => false

/-! which id is which (found in whatever way: it is looked at afterwards) -/
abbrev Bind := List (Nat × Nat)
def getB : Bind → Nat → Option Nat
  | [], _ => none
  | x :: l, i => match Nat.beq x.1 i with | true => some x.2 | false => getB l i
def putB (b : Nat) (i j : Nat) (l : Bind) : Bind :=
  match Nat.blt i b with
  | true => l
  | false => match getB l i with
    | some _ => l
    | none => (i, j) :: l
mutual
def findV (b : Nat) : Value → Value → Bind → Bind
  | .pointer (some x), y, l => match y with | .pointer (some y) => putB b x.block y.block l | _ => l
  | .slice (some x) _ _, y, l => match y with | .slice (some y) _ _ => putB b x.block y.block l | _ => l
  | .map (some x), y, l => match y with | .map (some y) => putB b x y l | _ => l
  | .agg x, y, l => match y with | .agg y => findA' b x y l | _ => l
  | .iface _ x, y, l => match y with | .iface _ y => findV b x y l | _ => l
  | _, _, l => l
def findA' (b : Nat) : Array Value → Array Value → Bind → Bind
  | ⟨x⟩, ⟨y⟩, l => findL b x y l
def findL (b : Nat) : List Value → List Value → Bind → Bind
  | [], _, l => l
  | x :: xs, ys, l => match ys with
    | [] => l
    | y :: ys => findL b xs ys (findV b x y l)
end
def findO (b : Nat) (hp : T AObj) : Objs → Bind → Bind
  | [], l => l
  | x :: xs, l => match getB l x.1 with
    | some j => match x.2, hp.get j with
      | .row _ cs _ _, some (.row _ cs' _ _) => findO b hp xs (findL b cs cs' l)
      | _, _ => findO b hp xs l
    | none => findO b hp xs l

def rho (b n0 ct : Nat) (l : Bind) (i : Nat) : Nat :=
  match Nat.blt i b with
  | true => i
  | false => match Nat.blt i n0 with
    | true => match getB l i with | some j => j | none => 0
    | false => i - n0 + ct

def objsLike (ρ : Nat → Nat) (hp : T AObj) : Objs → Bool
  | [] => true
  | x :: l => (match hp.get (ρ x.1) with | some o => likeO (renO ρ x.2) o | none => false) && objsLike ρ hp l
def layNews (ρ : Nat → Nat) (hp : T AObj) : Objs → T AObj
  | [] => hp
  | x :: l => (layNews ρ hp l).set (ρ x.1) (renO ρ x.2)

def hmemoTry (st0 : St) (e : HMemo) (args : List Value) (st : St) : Option (Value × St) :=
  (fun ρ : Nat → Nat => match beqVL (renL ρ e.args) args && objsLike ρ st.hp e.objs && hasIds st0.hp st.hp e.ids with
    | true => some (ren ρ e.v, ⟨layNews ρ st.hp e.news, e.n1 - e.n0 + st.ct⟩)
    | false => none) (rho st0.ct e.n0 st.ct (findO st0.ct st.hp e.objs (findL st0.ct e.args args [])))
def hmemoFind (st0 : St) (f : Nat) (args : List Value) (st : St) : List HMemo → Option (Value × St)
  | [] => none
  | e :: l => match Nat.beq e.f f with
    | true => match hmemoTry st0 e args st with
      | some q => some q
      | none => hmemoFind st0 f args st l
    | false => hmemoFind st0 f args st l
def hmemoHas (f : Nat) : List HMemo → Bool
  | [] => false
  | e :: l => match Nat.beq e.f f with
    | true => true
    | false => hmemoHas f l
/-- ahead of the others; else the call is run -/
def ovHeapF (cx : Cx) (st0 : St) (l : List HMemo) (n : Nat) (ov : Ov) : Nat → Option (List Value → St → Option (Value × St)) := fun f =>
  match hmemoHas f l with
  | true => some fun args st => match hmemoFind st0 f args st l with
    | some q => some q
    | none => callF cx ov n f args st
  | false => ov f
def ovHeap (cx : Cx) (st0 : St) (l : List HMemo) (n : Nat) (ov : Ov) : Ov := ⟨ovHeapF cx st0 l n ov, ov.lp⟩

/-! ### soundness -/
mutual
theorem conc_ren (μ : Nat → Loc) (ρ : Nat → Nat) : ∀ v, conc μ (ren ρ v) = conc (fun i => μ (ρ i)) v
  | .bool _ => by simp [ren]
  | .int .. => by simp [ren]
  | .float .. => by simp [ren, conc]
  | .complex .. => by simp [ren, conc]
  | .string _ => by simp [ren]
  | .pointer a => by cases a <;> simp [ren, concAddr]
  | .slice a n c => by
    cases a with
    | none => simp [ren]
    | some a =>
      simp only [ren, conc_slice]
      have h1 : concCap μ (ρ a.block) c = concCap (fun i => μ (ρ i)) a.block c := rfl
      have h2 : ∀ k, concEnd μ ⟨ρ a.block, a.off, a.spot⟩ k = concEnd (fun i => μ (ρ i)) a k := by
        intro k
        unfold concEnd
        cases a.spot <;> rfl
      rw [h1, h2]
  | .map r => by cases r <;> simp [ren]
  | .chan r => by cases r <;> simp [ren, conc]
  | .func fn a b => by
    simp only [ren, conc_func, concA_ren μ ρ a, concA_ren μ ρ b]
    cases fn <;> rfl
  | .nilFunc => by simp [ren]
  | .iface t v => by simp [ren, conc_ren μ ρ v]
  | .nilIface => by simp [ren]
  | .agg cs => by simp [ren, concA_ren μ ρ cs]
  | .tuple cs => by simp [ren, concA_ren μ ρ cs]
theorem concA_ren (μ : Nat → Loc) (ρ : Nat → Nat) : ∀ a, concA μ (renA ρ a) = concA (fun i => μ (ρ i)) a
  | ⟨l⟩ => by simp only [renA, concA, concL_ren μ ρ l]
theorem concL_ren (μ : Nat → Loc) (ρ : Nat → Nat) : ∀ l, concL μ (renL ρ l) = concL (fun i => μ (ρ i)) l
  | [] => by simp [renL, concL]
  | v :: l => by simp [renL, concL, conc_ren μ ρ v, concL_ren μ ρ l]
end

mutual
theorem conc_in {p : Nat → Bool} {μ μ' : Nat → Loc} (h : ∀ i, p i = true → μ i = μ' i) : ∀ v, inIds p v = true → conc μ v = conc μ' v
  | .bool _, _ => by simp
  | .int .., _ => by simp
  | .float .., _ => by simp [conc]
  | .complex .., _ => by simp [conc]
  | .string _, _ => by simp
  | .pointer a, hb => by
    cases a with
    | none => simp
    | some a =>
      simp only [inIds] at hb
      simp [concAddr, h _ hb]
  | .slice a _ c, hb => by
    cases a with
    | none => simp
    | some a =>
      simp only [inIds] at hb
      have := h _ hb
      have hc : concCap μ a.block c = concCap μ' a.block c := by simp only [concCap, this]
      have he : ∀ k, concEnd μ a k = concEnd μ' a k := by
        intro k
        unfold concEnd
        cases a.spot <;> simp only [concAddr, this]
      rw [conc_slice, conc_slice, hc, he]
  | .map r, hb => by
    cases r with
    | none => simp
    | some r =>
      simp only [inIds] at hb
      simp [h _ hb]
  | .chan r, hb => by
    cases r with
    | none => simp [conc]
    | some r =>
      simp only [inIds] at hb
      simp [conc, h _ hb]
  | .func fn a b, hb => by
    simp only [inIds, Bool.and_eq_true] at hb
    have hfn : ∀ μ, concFn μ fn = fn := fun μ => concFn_of fun l e => by subst e; simp at hb
    simp [concA_in h a hb.1.2, concA_in h b hb.2, hfn]
  | .nilFunc, _ => by simp
  | .iface t v, hb => by simp only [inIds] at hb; simp [conc_in h v hb]
  | .nilIface, _ => by simp
  | .agg cs, hb => by simp only [inIds] at hb; simp [concA_in h cs hb]
  | .tuple cs, hb => by simp only [inIds] at hb; simp [concA_in h cs hb]
theorem concA_in {p : Nat → Bool} {μ μ' : Nat → Loc} (h : ∀ i, p i = true → μ i = μ' i) : ∀ a, inIdsA p a = true → concA μ a = concA μ' a
  | ⟨l⟩, hb => by simp only [inIdsA] at hb; simp only [concA, concL_in h l hb]
theorem concL_in {p : Nat → Bool} {μ μ' : Nat → Loc} (h : ∀ i, p i = true → μ i = μ' i) : ∀ l, inIdsL p l = true → concL μ l = concL μ' l
  | [], _ => by simp [concL]
  | v :: l, hb => by simp only [inIdsL, Bool.and_eq_true] at hb; simp [concL, conc_in h v hb.1, concL_in h l hb.2]
end

theorem renE_map (ρ : Nat → Nat) : ∀ l, renE ρ l = l.map fun e => { key := e.key, val := ren ρ e.val, born := e.born } := by
  intro l
  induction l with
  | nil => rfl
  | cons e l ih => simp [renE, ih]
theorem renL_map (ρ : Nat → Nat) : ∀ l, renL ρ l = l.map (ren ρ) := by
  intro l
  induction l with
  | nil => rfl
  | cons e l ih => simp [renL, ih]
theorem inIdsL_mem {p : Nat → Bool} : ∀ (l : List Value), inIdsL p l = true → ∀ v ∈ l, inIds p v = true := by
  intro l
  induction l with
  | nil => intro _ v hv; cases hv
  | cons x l ih =>
    intro h v hv
    simp only [inIdsL, Bool.and_eq_true] at h
    rcases List.mem_cons.1 hv with rfl | hv
    · exact h.1
    · exact ih h.2 v hv
theorem inIdsE_mem {p : Nat → Bool} : ∀ (l : List MapEntry), inIdsE p l = true → ∀ e ∈ l, inIds p e.val = true := by
  intro l
  induction l with
  | nil => intro _ v hv; cases hv
  | cons x l ih =>
    intro h v hv
    simp only [inIdsE, Bool.and_eq_true] at h
    rcases List.mem_cons.1 hv with rfl | hv
    · exact h.1
    · exact ih h.2 v hv

/-- an object under other names -/
theorem ObjRep.unren {cx : Cx} {p : Nat → Bool} {μ0 μ : Nat → Loc} {ρ : Nat → Nat} {w : World} {k : Nat} {o o' : AObj} (hag : ∀ i, p i = true → μ0 i = μ (ρ i)) (hk : μ0 k = μ (ρ k)) (hf : frozenIn p o = true) (hl : likeO (renO ρ o) o' = true)
    (hr : ObjRep cx μ w (ρ k) o') : ObjRep cx μ0 w k o := by
  cases o with
  | row e cs op wr =>
    simp only [frozenIn, Bool.and_eq_true, Bool.not_eq_true'] at hf
    obtain ⟨hwr, hin⟩ := hf
    subst hwr
    cases o' <;> simp only [renO, likeO] at hl <;> (try (cases hl; done))
    rename_i e' cs' op' wr'
    simp only [Bool.and_eq_true, decide_eq_true_eq] at hl
    obtain ⟨⟨h1, h2⟩, h3⟩ := hl
    have h1 := Nat.eq_of_beq_eq_true h1
    have h2 := beqVL_eq _ _ h2
    subst h1; subst h2; subst h3
    obtain ⟨cells, e2, fz, g1, g2, g3, _, g5, _⟩ := hr
    refine ⟨cells, e2, fz, by rw [hk]; exact g1, ?_, fun j v hj hc => ?_, (fun h => by cases h), ?_, (fun h => by cases h)⟩
    · rw [hk]; simpa [renL_map] using g2
    · have := g3 j (ren ρ v) (by rw [renL_map, List.getElem?_map, hj]; rfl) (by rw [← isCell_conc μ, conc_ren, isCell_conc]; exact hc)
      rw [hk, this, conc_ren, conc_in hag v (inIdsL_mem _ hin v (List.mem_of_getElem? hj))]
    · rw [hk]; simpa [renL_map] using g5
  | map es lk wr =>
    simp only [frozenIn, Bool.and_eq_true, Bool.not_eq_true'] at hf
    obtain ⟨hwr, hin⟩ := hf
    subst hwr
    cases o' <;> simp only [renO, likeO] at hl <;> (try (cases hl; done))
    rename_i es' lk' wr'
    simp only [Bool.and_eq_true, decide_eq_true_eq] at hl
    obtain ⟨h1, h2⟩ := hl
    have h1 := beqE_eq _ _ h1
    subst h1; subst h2
    obtain ⟨⟨es1, clock, g1, g2, g3, g4, g5⟩, g6⟩ := hr
    rw [renE_map] at g2 g6
    -- the entries as they lie, under the first names
    have hfl : ∀ e ∈ es, flat e.key = true := fun e he => g6 { key := e.key, val := Ai.ren ρ e.val, born := e.born } (List.mem_map.2 ⟨e, he, rfl⟩)
    have hback : ∀ (l1 : List MapEntry) (kv : List (Value × Value)), (l1.map kvOf).Perm ((kv.map fun q => (q.1, ren ρ q.2))) → ∃ l2 : List MapEntry, (l2.map kvOf).Perm kv ∧ l2.map (·.born) = l1.map (·.born) ∧ l1 = l2.map fun e => { key := e.key, val := ren ρ e.val, born := e.born } := by
      intro l1 kv hp
      have : ∀ (l1 : List MapEntry) (q : List (Value × Value)), l1.map kvOf = q.map (fun q => (q.1, ren ρ q.2)) → ∃ l2 : List MapEntry, l2.map kvOf = q ∧ l2.map (·.born) = l1.map (·.born) ∧ l1 = l2.map fun e => { key := e.key, val := ren ρ e.val, born := e.born } := by
        intro l1
        induction l1 with
        | nil => intro q h; cases q with
          | nil => exact ⟨[], rfl, rfl, rfl⟩
          | cons a q => simp at h
        | cons x l1 ih =>
          intro q h
          cases q with
          | nil => simp at h
          | cons a q =>
            simp only [List.map_cons, List.cons.injEq] at h
            obtain ⟨l2, h1, h2, h3⟩ := ih q h.2
            refine ⟨{ key := a.1, val := a.2, born := x.born } :: l2, by simp [kvOf, h1], by simp [h2], ?_⟩
            have hx := h.1
            simp only [kvOf, Prod.mk.injEq] at hx
            simp only [List.map_cons, List.cons.injEq]
            refine ⟨?_, h3⟩
            cases x; simp_all
      obtain ⟨q, hq1, hq2⟩ : ∃ q : List (Value × Value), l1.map kvOf = q.map (fun q => (q.1, ren ρ q.2)) ∧ q.Perm kv := by
        generalize hk2 : (kv.map fun q => (q.1, ren ρ q.2)) = kr at hp
        have gen : ∀ {a b : List (Value × Value)}, a.Perm b → ∀ kv : List (Value × Value), kv.map (fun q => (q.1, ren ρ q.2)) = b → ∃ q : List (Value × Value), a = q.map (fun q => (q.1, ren ρ q.2)) ∧ q.Perm kv := by
          intro a b hp
          induction hp with
          | nil => intro kv h; exact ⟨kv, h.symm, List.Perm.refl _⟩
          | cons x _ ih =>
            intro kv h
            cases kv with
            | nil => simp at h
            | cons y kv =>
              simp only [List.map_cons, List.cons.injEq] at h
              obtain ⟨q, h1, h2⟩ := ih kv h.2
              exact ⟨y :: q, by simp [h1, h.1], h2.cons y⟩
          | swap x y l =>
            intro kv h
            cases kv with
            | nil => simp at h
            | cons a kv => cases kv with
              | nil => simp at h
              | cons b kv =>
                simp only [List.map_cons, List.cons.injEq] at h
                exact ⟨b :: a :: kv, by simp [h.1, h.2.1, h.2.2], List.Perm.swap _ _ _⟩
          | trans _ _ ih1 ih2 =>
            intro kv h
            obtain ⟨q, h1, h2⟩ := ih2 kv h
            obtain ⟨q', h3, h4⟩ := ih1 q h1.symm
            exact ⟨q', h3, h4.trans h2⟩
        exact gen hp kv hk2
      obtain ⟨l2, h1, h2, h3⟩ := this l1 q hq1
      exact ⟨l2, by rw [h1]; exact hq2, h2, h3⟩
    obtain ⟨l2, k1, k2, k3⟩ := hback es1 (es.map kvOf) (by rw [List.map_map]; rw [List.map_map] at g2; exact g2)
    refine ⟨⟨l2, clock, ?_, k1, by rw [k2]; exact g3, fun e he => ?_, by rw [hk]; exact g5⟩, hfl⟩
    · rw [hk, g1, k3, List.map_map]
      congr 2
      apply congrArg
      refine List.map_congr_left fun x hx => ?_
      have : kvOf x ∈ es.map kvOf := k1.mem_iff.1 (List.mem_map.2 ⟨x, hx, rfl⟩)
      obtain ⟨y, hy, hxy⟩ := List.mem_map.1 this
      simp only [kvOf, Prod.mk.injEq] at hxy
      have hin2 := inIdsE_mem _ hin y hy
      rw [hxy.2] at hin2
      simp [concE, conc_ren, conc_in hag _ hin2]
    · have : e.born ∈ es1.map (·.born) := by rw [← k2]; exact List.mem_map.2 ⟨e, he, rfl⟩
      obtain ⟨e2, he2, hb⟩ := List.mem_map.1 this
      rw [← hb]; exact g4 e2 he2
  | _ => simp [frozenIn] at hf

/-- and a new one, under the names of now -/
theorem ObjRep.ren {cx : Cx} {μ : Nat → Loc} {ρ : Nat → Nat} {w : World} {k : Nat} {o : AObj} (hwr : o.isWr = true) (hso : ∃ o', sameO o o' = true) (hr : ObjRep cx (fun i => μ (ρ i)) w k o) : ObjRep cx μ w (ρ k) (renO ρ o) := by
  obtain ⟨o', hso⟩ := hso
  cases o with
  | row e cs op wr =>
    obtain ⟨cells, e2, fz, g1, g2, g3, g4, g5, g6⟩ := hr
    simp only [renO]
    refine ⟨cells, e2, fz, g1, by simpa [renL_map] using g2, fun j v hj hc => ?_, g4, by simpa [renL_map] using g5, g6⟩
    rw [renL_map, List.getElem?_map, Option.map_eq_some_iff] at hj
    obtain ⟨v0, hj, rfl⟩ := hj
    rw [conc_ren]
    refine g3 j v0 hj ?_
    rw [← isCell_conc (fun i => μ (ρ i)), ← conc_ren, isCell_conc]; exact hc
  | map es lk wr =>
    obtain ⟨⟨es1, clock, g1, g2, g3, g4, g5⟩, g6⟩ := hr
    simp only [renO]
    refine ⟨⟨es1.map fun e => { key := e.key, val := Ai.ren ρ e.val, born := e.born }, clock, ?_, ?_, ?_, ?_, g5⟩, ?_⟩
    · rw [g1, List.map_map]
      congr 2
      apply congrArg
      refine List.map_congr_left fun x _ => ?_
      simp [concE, conc_ren]
    · rw [renE_map, List.map_map, List.map_map]
      have := g2.map fun q : Value × Value => (q.1, Ai.ren ρ q.2)
      rw [List.map_map, List.map_map] at this
      exact this
    · rw [List.map_map]; exact g3
    · intro e he
      obtain ⟨x, hx, rfl⟩ := List.mem_map.1 he
      exact g4 x hx
    · intro e he
      rw [renE_map] at he
      obtain ⟨x, hx, rfl⟩ := List.mem_map.1 he
      exact g6 x hx
  | _ => simp [sameO] at hso

theorem sameO_eq : ∀ (a b : AObj), sameO a b = true → a = b := by
  intro a b h
  cases a <;> cases b <;> simp only [sameO] at h <;> (try (cases h; done))
  · simp only [Bool.and_eq_true, decide_eq_true_eq] at h
    obtain ⟨⟨⟨h3, h4⟩, h5⟩, h6⟩ := h
    rw [Nat.eq_of_beq_eq_true h3, beqVL_eq _ _ h4, h5, h6]
  · simp only [Bool.and_eq_true, decide_eq_true_eq] at h
    obtain ⟨⟨h3, h4⟩, h5⟩ := h
    rw [beqE_eq _ _ h3, h4, h5]

theorem over0_get {hp : T AObj} : ∀ (l : Objs) (id : Nat) (o : AObj), (over0 hp l).get id = some o → (id, o) ∈ l ∨ hp.get id = some o := by
  intro l
  induction l with
  | nil => intro id o h; exact .inr h
  | cons x l ih =>
    intro id o h
    simp only [over0, T.get_set] at h
    split at h
    · rename_i e; subst e; injection h with h; subst h; exact .inl (by simp)
    · rcases ih id o h with h | h
      · exact .inl (by simp [h])
      · exact .inr h
theorem objsOk_mem {b n0 : Nat} {p : Nat → Bool} : ∀ (l : Objs), objsOk b n0 p l = true → ∀ x ∈ l, b ≤ x.1 ∧ x.1 < n0 ∧ frozenIn p x.2 = true := by
  intro l
  induction l with
  | nil => intro _ x hx; cases hx
  | cons y l ih =>
    intro h x hx
    simp only [objsOk, Bool.and_eq_true] at h
    rcases List.mem_cons.1 hx with rfl | hx
    · exact ⟨Nat.le_of_ble_eq_true h.1.1.1, Nat.le_of_ble_eq_true h.1.1.2, h.1.2⟩
    · exact ih h.2 x hx
theorem newsOk_mem {n0 n1 : Nat} {hp : T AObj} : ∀ (l : Objs), newsOk n0 n1 hp l = true → ∀ x ∈ l, n0 ≤ x.1 ∧ x.1 < n1 ∧ x.2.isWr = true ∧ hp.get x.1 = some x.2 ∧ sameO x.2 x.2 = true := by
  intro l
  induction l with
  | nil => intro _ x hx; cases hx
  | cons y l ih =>
    intro h x hx
    simp only [newsOk, Bool.and_eq_true] at h
    rcases List.mem_cons.1 hx with rfl | hx
    · have h2 := h.1.2
      split at h2
      · rename_i o ho
        have e := sameO_eq _ _ h2
        subst e
        exact ⟨Nat.le_of_ble_eq_true h.1.1.1.1, Nat.le_of_ble_eq_true h.1.1.1.2, h.1.1.2, ho, h2⟩
      · cases h2
    · exact ih h.2 x hx
theorem objsLike_mem {ρ : Nat → Nat} {hp : T AObj} : ∀ (l : Objs), objsLike ρ hp l = true → ∀ x ∈ l, ∃ o, hp.get (ρ x.1) = some o ∧ likeO (renO ρ x.2) o = true := by
  intro l
  induction l with
  | nil => intro _ x hx; cases hx
  | cons y l ih =>
    intro h x hx
    simp only [objsLike, Bool.and_eq_true] at h
    rcases List.mem_cons.1 hx with rfl | hx
    · have h2 := h.1
      split at h2
      · rename_i o ho; exact ⟨o, ho, h2⟩
      · cases h2
    · exact ih h.2 x hx
theorem layNews_get {ρ : Nat → Nat} {hp : T AObj} : ∀ (l : Objs) (id : Nat) (o : AObj), (layNews ρ hp l).get id = some o → (∃ x ∈ l, id = ρ x.1 ∧ o = renO ρ x.2) ∨ hp.get id = some o := by
  intro l
  induction l with
  | nil => intro id o h; exact .inr h
  | cons x l ih =>
    intro id o h
    simp only [layNews, T.get_set] at h
    split at h
    · rename_i e; subst e; injection h with h; subst h; exact .inl ⟨x, by simp, rfl, rfl⟩
    · rcases ih id o h with ⟨y, h1, h2⟩ | h
      · exact .inl ⟨y, by simp [h1], h2⟩
      · exact .inr h
theorem hasKey_mem : ∀ (l : Objs) (i : Nat), hasKey l i = true → ∃ x ∈ l, x.1 = i := by
  intro l
  induction l with
  | nil => intro i h; cases h
  | cons x l ih =>
    intro i h
    simp only [hasKey, Bool.or_eq_true] at h
    rcases h with h | h
    · exact ⟨x, by simp, Nat.eq_of_beq_eq_true h⟩
    · obtain ⟨y, h1, h2⟩ := ih i h
      exact ⟨y, by simp [h1], h2⟩

theorem rho_low {b n0 ct : Nat} {l : Bind} {i : Nat} (h : i < b) : rho b n0 ct l i = i := by
  unfold rho
  have : Nat.blt i b = true := Nat.ble_eq.mpr h
  rw [this]
theorem rho_high {b n0 ct : Nat} {l : Bind} {i : Nat} (hb : b ≤ n0) (h : n0 ≤ i) : rho b n0 ct l i = i - n0 + ct := by
  unfold rho
  have h1 : Nat.blt i b = false := by
    cases hq : Nat.blt i b with
    | false => rfl
    | true => have : i < b := Nat.le_of_ble_eq_true hq; omega
  have h2 : Nat.blt i n0 = false := by
    cases hq : Nat.blt i n0 with
    | false => rfl
    | true => have : i < n0 := Nat.le_of_ble_eq_true hq; omega
  rw [h1, h2]

section
variable {P : Program} {ov : Ov}

theorem hmemo_ok (hmix : P.follows .mixedOrders = true) (hov : OvOk P ov) (hovm : OvMono ov) (hovi : OvIds ov) {n : Nat} {st0 st : St} {e : HMemo} (h : hmemoOk (Cx.of P) ov n st0 e = true) {args : List Value} {q : Value × St} (hq : hmemoTry st0 e args st = some q)
    {m : Nat → Option Loc} {w : World} {cargs : List Value} (hR : Rep (Cx.of P) m st.G w) (ha : VReps m args cargs) (hf : Fresh m st.ct q.2.ct) : FnOk P e.f cargs.toArray w (CallPost (Cx.of P) m st w q.1 q.2) := by
  unfold hmemoOk at h
  simp only [Bool.and_eq_true] at h
  obtain ⟨⟨⟨⟨⟨h1, h2⟩, h3⟩, h4⟩, h5⟩, h6⟩ := h
  split at h6 <;> (try (cases h6; done))
  rename_i v st2 hc
  rw [callF_eq] at hc
  simp only [Bool.and_eq_true] at h6
  obtain ⟨⟨⟨k1, k2⟩, k3⟩, k4⟩ := h6
  have hv := beqV_eq _ _ k1
  have hn1 := Nat.eq_of_beq_eq_true k2
  have hle := Nat.le_of_ble_eq_true k3
  have h1 := Nat.le_of_ble_eq_true h1
  have h2 := Nat.le_of_ble_eq_true h2
  unfold hmemoTry at hq
  generalize hρ : rho st0.ct e.n0 st.ct (findO st0.ct st.hp e.objs (findL st0.ct e.args args [])) = ρ at hq
  simp only at hq
  split at hq <;> (try (cases hq; done))
  rename_i hchk
  simp only [Bool.and_eq_true] at hchk
  obtain ⟨⟨c1, c2⟩, c3⟩ := hchk
  have c1 := beqVL_eq _ _ c1
  simp only [Option.some.injEq] at hq
  subst hq
  simp only at hf ⊢
  have hlow : ∀ i, i < st0.ct → ρ i = i := fun i hi => by rw [← hρ]; exact rho_low hi
  have hhigh : ∀ i, e.n0 ≤ i → ρ i = i - e.n0 + st.ct := fun i hi => by rw [← hρ]; exact rho_high h2 hi
  generalize hm0 : (fun i => if i < e.n0 then m (ρ i) else none) = m0
  have hm0a : ∀ i, i < e.n0 → m0 i = m (ρ i) := fun i hi => by rw [← hm0]; simp [hi]
  have hm0b : ∀ i, e.n0 ≤ i → m0 i = none := fun i hi => by rw [← hm0]; simp [Nat.not_lt.2 hi]
  have hobj := objsOk_mem _ h4
  have hlike := objsLike_mem _ c2
  -- any names that go on from the small ones go on to names that go on from the great ones
  have lift : ∀ μ0, Ext m0 μ0 → ∃ μ, Ext m μ ∧ ∀ i, okId st0.ct e.objs i = true → μ0 i = μ (ρ i) := by
    intro μ0 hμ0
    refine ⟨fun i => (m i).getD (μ0 i), fun i l hi => by simp [hi], fun i hi => ?_⟩
    simp only [okId, Bool.or_eq_true] at hi
    rcases hi with hi | hi
    · have hi : i < st0.ct := Nat.le_of_ble_eq_true hi
      rw [hlow i hi]
      cases hmi : m i with
      | none => simp [hmi]
      | some l =>
        simp only [hmi, Option.getD_some]
        exact hμ0 i l (by rw [hm0a i (by omega), hlow i hi, hmi])
    · obtain ⟨x, hx, rfl⟩ := hasKey_mem _ _ hi
      obtain ⟨_, hlt, _⟩ := hobj x hx
      obtain ⟨o, ho, _⟩ := hlike x hx
      obtain ⟨l, hl, _⟩ := hR.dom _ _ ho
      simp only [hl, Option.getD_some]
      exact hμ0 _ _ (by rw [hm0a _ hlt, hl])
  have sub : ∀ id o, (⟨over0 (keepIds st0.hp e.ids) e.objs, e.n0⟩ : St).G id o → o.isWr = false ∧ (((id, o) ∈ e.objs) ∨ (st.G id o ∧ id < st0.ct ∧ belowO st0.ct o = true)) := by
    intro id o hg
    rcases over0_get _ _ _ hg with hg | hg
    · obtain ⟨_, _, hfz⟩ := hobj _ hg
      refine ⟨?_, .inl hg⟩
      cases o <;> simp [frozenIn] at hfz <;> simp [AObj.isWr, hfz]
    · obtain ⟨g1, g2⟩ := keepIds_get _ _ _ hg
      obtain ⟨g3, o', g4, g5⟩ := keepOk_mem _ h3 id g1
      rw [g2] at g4; injection g4 with g4; subst g4
      obtain ⟨g6, g7⟩ := hasIds_mem _ c3 id g1 o g2
      exact ⟨g7, .inr ⟨g6, g3, g5⟩⟩
  have hR0 : Rep (Cx.of P) m0 (⟨over0 (keepIds st0.hp e.ids) e.objs, e.n0⟩ : St).G w := {
    dom := fun id o hg => by
      rcases (sub id o hg).2 with hx | ⟨g1, g2, _⟩
      · obtain ⟨_, hlt, _⟩ := hobj _ hx
        obtain ⟨o', ho', _⟩ := hlike _ hx
        obtain ⟨l, k5, k6⟩ := hR.dom _ _ ho'
        exact ⟨l, by rw [hm0a _ hlt]; exact k5, k6⟩
      · obtain ⟨l, k5, k6⟩ := hR.dom _ _ g1
        exact ⟨l, by rw [hm0a _ (by omega), hlow _ g2]; exact k5, k6⟩
    obj := fun μ0 hμ0 id o hg => by
      obtain ⟨μ, hμ, hag⟩ := lift μ0 hμ0
      rcases (sub id o hg).2 with hx | ⟨g1, g2, g3⟩
      · obtain ⟨_, _, hfz⟩ := hobj _ hx
        obtain ⟨o', ho', hlk⟩ := hlike _ hx
        have hkey : okId st0.ct e.objs id = true := by
          simp only [okId, Bool.or_eq_true]
          refine .inr ?_
          have : ∀ (l : Objs), (id, o) ∈ l → hasKey l id = true := by
            intro l
            induction l with
            | nil => intro h; cases h
            | cons y l ih =>
              intro h
              simp only [hasKey, Bool.or_eq_true]
              rcases List.mem_cons.1 h with h | h
              · subst h; exact .inl (by simp)
              · exact .inr (ih h)
          exact this _ hx
        exact ObjRep.unren hag (hag id hkey) hfz hlk (hR.obj μ hμ _ _ ho')
      · have hag2 : AgreeBelow st0.ct μ0 μ := fun i hi => by
          have := hag i (by simp only [okId, Bool.or_eq_true]; exact .inl (Nat.ble_eq.mpr hi))
          rw [hlow i hi] at this; exact this
        exact (hR.obj μ hμ id o g1).below hag2 g2 g3
    inj := fun i j oi oj li lj hi _ hw => by
      have := (sub i oi hi).1
      rw [this] at hw; cases hw
    glob := fun g hg => by
      have : g < st0.ct := Nat.lt_of_lt_of_le hg h1
      rw [hm0a _ (by omega), hlow _ this]; exact hR.glob g hg }
  have hargs : VReps m0 e.args cargs := by
    intro μ0 hμ0
    obtain ⟨μ, hμ, hag⟩ := lift μ0 hμ0
    rw [← ha μ hμ, ← c1, ← concL_eq, ← concL_eq, concL_ren]
    exact concL_in hag _ h5
  have hfr0 : Fresh m0 e.n0 st2.ct := fun i hi _ => hm0b i hi
  have hcall := call_sound hmix hov hovm hovi hc hR0 hargs hfr0
  have fin : ∀ cv w', CallPost (Cx.of P) m0 ⟨over0 (keepIds st0.hp e.ids) e.objs, e.n0⟩ w v st2 cv w' → CallPost (Cx.of P) m st w (ren ρ e.v) ⟨layNews ρ st.hp e.news, e.n1 - e.n0 + st.ct⟩ cv w' := by
    rintro cv w' ⟨m', hs, hvr⟩
    simp only at hs
    have hblk : ∀ b, b < w.heap.size → w'.heap[b]? = w.heap[b]? := fun b hb => hs.fr.block b hb fun id o l hg hw => by rw [(sub id o hg).1] at hw; cases hw
    generalize hm2 : (fun i => if st.ct ≤ i ∧ i < e.n1 - e.n0 + st.ct then m' (i - st.ct + e.n0) else m i) = m2
    have hm2a : ∀ i, e.n0 ≤ i → i < e.n1 → m2 (ρ i) = m' i := fun i hi1 hi2 => by
      rw [← hm2, hhigh i hi1]
      have : st.ct ≤ i - e.n0 + st.ct ∧ i - e.n0 + st.ct < e.n1 - e.n0 + st.ct := by omega
      simp only [if_pos this]
      congr 1; omega
    have hmono : ∀ i l, m i = some l → m2 i = some l := fun i l hi => by
      rw [← hm2]
      by_cases hr : st.ct ≤ i ∧ i < e.n1 - e.n0 + st.ct
      · rw [hf i hr.1 hr.2] at hi; cases hi
      · simp only [if_neg hr]; exact hi
    have hext : ∀ μ, Ext m2 μ → Ext m' (fun i => μ (ρ i)) := by
      intro μ hμ i l hi
      rcases hs.dom i l hi with h7 | ⟨h7, h8⟩
      · have hlt : i < e.n0 := by
          rcases Nat.lt_or_ge i e.n0 with h | h
          · exact h
          · rw [hm0b i h] at h7; cases h7
        rw [hm0a i hlt] at h7
        exact hμ _ _ (hmono _ _ h7)
      · exact hμ _ _ (by rw [hm2a i h7 (by omega)]; exact hi)
    have news : ∀ x ∈ e.news, ∃ l, m2 (ρ x.1) = some l ∧ l.blk < w'.heap.size ∧ w.heap.size ≤ l.blk ∧ st2.G x.1 x.2 ∧ st.ct ≤ ρ x.1 ∧ (renO ρ x.2).isWr = true := by
      intro x hx
      obtain ⟨n3, n4, n5, n6, n7⟩ := newsOk_mem _ k4 x hx
      obtain ⟨l, n8, n9⟩ := hs.rep.dom _ _ n6
      refine ⟨l, by rw [hm2a _ n3 n4]; exact n8, n9, ?_, n6, by rw [hhigh _ n3]; omega, ?_⟩
      · rcases hs.prov _ _ _ n6 n8 with h | ⟨id0, o0, l0, g0, gw, _⟩
        · exact h
        · have := (sub id0 o0 g0).1
          rw [gw n5] at this; cases this
      · cases hx2 : x.2 <;> rw [hx2] at n5 n7 <;> simp [sameO] at n7 <;> simpa [renO, AObj.isWr] using n5
    have old : ∀ i o, st.G i o → ∃ l, m i = some l ∧ m2 i = some l ∧ l.blk < w.heap.size := fun i o hg => by
      obtain ⟨l, g1, g2⟩ := hR.dom i o hg
      exact ⟨l, g1, hmono _ _ g1, g2⟩
    refine ⟨m2, ⟨hmono, fun i l hi => ?_, ⟨?_, ?_, ?_, fun g hg => hmono _ _ (hR.glob g hg)⟩, ⟨hs.fr.size, hs.fr.os, hs.fr.tape, hs.fr.output, fun b hb _ => hblk b hb⟩, ?_⟩, ?_⟩
    · rw [← hm2] at hi
      by_cases hr : st.ct ≤ i ∧ i < e.n1 - e.n0 + st.ct
      · exact .inr hr
      · simp only [if_neg hr] at hi; exact .inl hi
    · intro id o hg
      rcases layNews_get _ _ _ hg with ⟨x, hx, rfl, rfl⟩ | hg
      · obtain ⟨l, g1, g2, _⟩ := news x hx
        exact ⟨l, g1, g2⟩
      · obtain ⟨l, _, g2, g3⟩ := old id o hg
        exact ⟨l, g2, Nat.lt_of_lt_of_le g3 hs.fr.size⟩
    · intro μ hμ id o hg
      rcases layNews_get _ _ _ hg with ⟨x, hx, rfl, rfl⟩ | hg
      · obtain ⟨_, _, n5, n6, n7⟩ := newsOk_mem _ k4 x hx
        exact ObjRep.ren n5 ⟨_, n7⟩ (hs.rep.obj _ (hext μ hμ) _ _ n6)
      · obtain ⟨l, g1, g2, g3⟩ := old id o hg
        have hμm : Ext m μ := fun i l hi => hμ _ _ (hmono _ _ hi)
        refine (hR.obj μ hμm id o hg).congr (hblk _ ?_)
        rw [hμm id l g1]; exact g3
    · intro i j oi oj li lj hi hj hw hli hlj hb
      rcases layNews_get _ _ _ hi with ⟨x, hx, rfl, rfl⟩ | hi <;> rcases layNews_get _ _ _ hj with ⟨y, hy, rfl, rfl⟩ | hj
      · obtain ⟨n3, n4, n5, n6, _⟩ := newsOk_mem _ k4 x hx
        obtain ⟨n3', n4', _, n6', _⟩ := newsOk_mem _ k4 y hy
        rw [hm2a _ n3 n4] at hli
        rw [hm2a _ n3' n4'] at hlj
        have := hs.rep.inj _ _ _ _ _ _ n6 n6' n5 hli hlj hb
        rw [this]
      · obtain ⟨l, g1, _, g3, _⟩ := news x hx
        obtain ⟨l', _, g5, g6⟩ := old j oj hj
        rw [g1] at hli; injection hli with hli; subst hli
        rw [g5] at hlj; injection hlj with hlj; subst hlj
        omega
      · obtain ⟨l, g1, _, g3, _⟩ := news y hy
        obtain ⟨l', _, g5, g6⟩ := old i oi hi
        rw [g1] at hlj; injection hlj with hlj; subst hlj
        rw [g5] at hli; injection hli with hli; subst hli
        omega
      · obtain ⟨l, g1, g2, _⟩ := old i oi hi
        obtain ⟨l', g3, g4, _⟩ := old j oj hj
        rw [g2] at hli; injection hli with hli; subst hli
        rw [g4] at hlj; injection hlj with hlj; subst hlj
        exact hR.inj i j oi oj _ _ hi hj hw g1 g3 hb
    · intro id o l hg hl
      rcases layNews_get _ _ _ hg with ⟨x, hx, rfl, rfl⟩ | hg
      · obtain ⟨l', g1, _, g3, _⟩ := news x hx
        rw [g1] at hl; injection hl with hl; subst hl
        exact .inl g3
      · obtain ⟨l', g1, g2, _⟩ := old id o hg
        rw [g2] at hl; injection hl with hl; subst hl
        exact .inr ⟨id, o, _, hg, fun h => h, g1, rfl⟩
    · intro μ hμ
      rw [conc_ren, hv]
      exact hvr _ (hext μ hμ)
  rcases hcall with ⟨cv, w', g1, g2⟩ | ⟨g1, g2⟩
  · exact .inl ⟨cv, w', g1, fin cv w' g2⟩
  · exact .inr ⟨g1, g2.mono fun x w' ⟨y, hy, hp⟩ => ⟨y, hy, fin y w' hp⟩⟩

theorem hmemoFind_mem {st0 st : St} {f : Nat} {args : List Value} : ∀ (l : List HMemo) (q : Value × St), hmemoFind st0 f args st l = some q → ∃ e ∈ l, e.f = f ∧ hmemoTry st0 e args st = some q := by
  intro l
  induction l with
  | nil => intro v h; simp [hmemoFind] at h
  | cons e l ih =>
    intro q h
    have rest : hmemoFind st0 f args st l = some q → ∃ e' ∈ e :: l, e'.f = f ∧ hmemoTry st0 e' args st = some q := fun h => by
      obtain ⟨e', h1, h2⟩ := ih q h
      exact ⟨e', by simp [h1], h2⟩
    simp only [hmemoFind] at h
    split at h
    · rename_i h1
      split at h
      · rename_i q' hq
        simp at h; subst h
        exact ⟨e, by simp, Nat.eq_of_beq_eq_true h1, hq⟩
      · exact rest h
    · exact rest h

theorem hmemoAll_nil {p : HMemo → Prop} : ∀ e ∈ ([] : List HMemo), p e := fun e he => by cases he
theorem hmemoAll_cons {p : HMemo → Prop} {e : HMemo} {l : List HMemo} (h : p e) (hl : ∀ x ∈ l, p x) : ∀ x ∈ e :: l, p x := fun x hx => by
  rcases List.mem_cons.1 hx with rfl | hx
  · exact h
  · exact hl x hx

theorem hmemoTry_st {st0 st : St} {e : HMemo} {args : List Value} {q : Value × St} (h : hmemoTry st0 e args st = some q) : ∃ ρ : Nat → Nat, q.2 = ⟨layNews ρ st.hp e.news, e.n1 - e.n0 + st.ct⟩ ∧ ρ = rho st0.ct e.n0 st.ct (findO st0.ct st.hp e.objs (findL st0.ct e.args args [])) := by
  unfold hmemoTry at h
  simp only at h
  split at h
  · simp only [Option.some.injEq] at h; subst h; exact ⟨_, rfl, rfl⟩
  · cases h

theorem ovHeap_ok (hmix : P.follows .mixedOrders = true) (hov : OvOk P ov) (hovm : OvMono ov) (hovi : OvIds ov) {st0 : St} {l : List HMemo} {n : Nat} (hl : ∀ e ∈ l, ∃ n, hmemoOk (Cx.of P) ov n st0 e = true) : OvOk P (ovHeap (Cx.of P) st0 l n ov) := by
  refine ⟨?_, hov.lp⟩
  intro f g args st v st' hg hr m w cargs hR ha hf
  simp only [ovHeap, ovHeapF] at hg
  split at hg
  · simp at hg; subst hg
    simp only at hr
    split at hr
    · rename_i q hq
      simp at hr; subst hr
      obtain ⟨e, h1, rfl, h4⟩ := hmemoFind_mem _ _ hq
      obtain ⟨n, hn⟩ := hl e h1
      exact hmemo_ok hmix hov hovm hovi hn h4 hR ha hf
    · rw [callF_eq] at hr
      exact call_sound hmix hov hovm hovi hr hR ha hf
  · exact hov.fn f g args st v st' hg hr m w cargs hR ha hf

theorem ovHeap_mono (hovm : OvMono ov) {cx : Cx} {st0 : St} {l : List HMemo} {n : Nat} : OvMono (ovHeap cx st0 l n ov) := by
  refine ⟨?_, hovm.lp, hovm.keeps⟩
  intro f g args st v st' hg hr
  simp only [ovHeap, ovHeapF] at hg
  split at hg
  · simp at hg; subst hg
    simp only at hr
    split at hr
    · rename_i q hq
      simp at hr; subst hr
      obtain ⟨e, _, _, h4⟩ := hmemoFind_mem _ _ hq
      obtain ⟨_, h5, _⟩ := hmemoTry_st h4
      simp only at h5
      rw [h5]; simp
    · rw [callF_eq] at hr
      exact callA_ct hovm (run_ct hovm n) hr
  · exact hovm.fn f g args st v st' hg hr

theorem ovHeap_ids (hovm : OvMono ov) (hovi : OvIds ov) {st0 : St} {l : List HMemo} {n : Nat} (hl : ∀ e ∈ l, ∃ n, hmemoOk (Cx.of P) ov n st0 e = true) : OvIds (ovHeap (Cx.of P) st0 l n ov) := by
  refine ⟨?_, hovi.lp⟩
  intro f g args st v st' hg hr
  simp only [ovHeap, ovHeapF] at hg
  split at hg
  · simp at hg; subst hg
    simp only at hr
    split at hr
    · rename_i q hq
      simp at hr; subst hr
      obtain ⟨e, he, _, h4⟩ := hmemoFind_mem _ _ hq
      obtain ⟨ρ, h5, h6⟩ := hmemoTry_st h4
      simp only at h5
      obtain ⟨n, hn⟩ := hl e he
      unfold hmemoOk at hn
      simp only [Bool.and_eq_true] at hn
      obtain ⟨⟨⟨⟨⟨_, h2⟩, _⟩, _⟩, _⟩, h7⟩ := hn
      split at h7 <;> (try (cases h7; done))
      simp only [Bool.and_eq_true] at h7
      have h2 := Nat.le_of_ble_eq_true h2
      rw [h5]
      intro id o hgo
      rcases layNews_get _ _ _ hgo with ⟨x, hx, rfl, rfl⟩ | hgo
      · obtain ⟨n3, n4, _⟩ := newsOk_mem _ h7.2 x hx
        right
        rw [h6, rho_high h2 n3]
        simp only
        omega
      · exact .inl ⟨o, hgo⟩
    · rw [callF_eq] at hr
      exact callA_ids hovi (run_ids hovm hovi n) hr
  · exact hovi.fn f g args st v st' hg hr

end
end
end Go.Ai

/-! A law without arguments, run by the abstract interpreter. -/
namespace Go.Ai
open Go Go.ChangeShapes Go.WideShapes Go.RowKit
noncomputable section

/-- nothing that was there has turned -/
structure Stays (W W' : World) : Prop where
  os : W'.os = W.os
  output : W'.output = W.output
  size : W.heap.size ≤ W'.heap.size
  block : ∀ b, b < W.heap.size → W'.heap[b]? = W.heap[b]?

theorem Stays.keptBut {W W' : World} (h : Stays W W') (may : MemPlace → Prop) : W.keptBut W' may := by
  refine ⟨h.os, h.output, fun i hi => ?_⟩
  rw [h.block i hi]
  cases W.heap[i]? with
  | none => trivial
  | some o => cases o <;> simp

section
variable {P : Program}

theorem Step.stays {m m' : Nat → Option Loc} {G G' : Nat → AObj → Prop} {w w' : World} {ct ct' : Nat} (h : Step (Cx.of P) m G w ct m' G' w' ct') (hro : ∀ id o, G id o → o.isWr = false) : Stays w w' where
  os := h.fr.os
  output := h.fr.output
  size := h.fr.size
  block := fun b hb => h.fr.block b hb fun id o l hg hw => by rw [hro id o hg] at hw; cases hw

/-- the abstract heap at the start -/
def startOf (P : Program) (nm : List (String × TypeId)) (fs : List Nat) (laid : List (String × DataW Unit)) : St :=
  match laidStart P nm fs laid with
  | some st => st
  | none => ⟨.nil, 0⟩

/-- the run of a law without arguments -/
def closedRun (P : Program) (ov : Ov) (nm : List (String × TypeId)) (fs : List Nat) (laid : List (String × DataW Unit)) (n f : Nat) : Bool :=
  (laidStart P nm fs laid).isSome && match callF (Cx.of P) ov n f [] (startOf P nm fs laid) with
    | some (.bool true, _) => true
    | _ => false

theorem closed_calls (hmix : P.follows .mixedOrders = true) {ov : Ov} (hov : OvOk P ov) (hovm : OvMono ov) (hovi : OvIds ov) {nm : List (String × TypeId)} (h2 : nm.all (nameOk P) = true) {fs : List Nat} {laid : List (String × DataW Unit)} {n f : Nat} (h : closedRun P ov nm fs laid n f = true)
    {fn : Func} (hfn : P.funcs[f]? = some fn) (hb : fn.body.isSome = true) (hnm : (fn.name == "runtime.NumGoroutine") = false) {W : World} (hl : laidMetH P laid W) :
    Calls P f #[] W fun e W' => e = .returned (.bool true) ∧ Stays W W' := by
  unfold closedRun at h
  simp only [Bool.and_eq_true] at h
  obtain ⟨hs, h3⟩ := h
  obtain ⟨st, hst⟩ := Option.isSome_iff_exists.1 hs
  have hst2 : startOf P nm fs laid = st := by unfold startOf; rw [hst]
  rw [hst2] at h3
  split at h3 <;> (try (cases h3; done))
  rename_i st' hrun
  rw [callF_eq] at hrun
  obtain ⟨m, hR, hfr, hro⟩ := laidStart_rep h2 hst hl
  have hc := call_sound hmix hov hovm hovi hrun hR (cargs := []) (fun μ _ => rfl) (fun i hi _ => hfr i hi)
  have hent : (callFunc f #[]).run P W = .ok (.enter f #[]) W := by
    have h1 : fn.name ≠ "runtime.NumGoroutine" := by simpa using hnm
    obtain ⟨c, hc⟩ := Option.isSome_iff_exists.1 hb
    simp [callFunc, hfn, h1, hc]
  rcases hc with ⟨v, w', h4, _⟩ | ⟨_, h5⟩
  · rw [hent] at h4; cases h4
  · refine h5.mono fun e W' ⟨v, he, m', hs, hv⟩ => ?_
    have : v = .bool true := (hv _ (some0_ext m')).symm
    subst this
    exact ⟨he, hs.stays hro⟩

variable {H : Type} {enc : TypeId × Value → H}

/-- the words of the row, where nothing that was there has turned -/
theorem post_stays {f : Func} {s : ChangeSpec} {apart fresh handsOn again : Bool} {W W' : World} {args : Array Value} {v : Value} {ds gs : List (DataW H)} {before pa pv : List MemPlace}
    (hW : DataW.Whole enc P f.params.toList s.vars apart W args.toList ds gs before)
    (hres : ∀ (b : Nat) (sp : Nat → Bool) (hd : Bool), DataW.TrodAll enc P W' b sp hd f.resultTypes.toList (v.resultList f.resultTypes.size) (s.fn H (ds ++ gs)).results [])
    (hargs : ∀ sp : Nat → Bool, (∀ p ∈ before, sp p.block = true) → DataW.TrodAll enc P W' 0 sp true f.params.toList args.toList (s.fn H (ds ++ gs)).args pa)
    (hvars : ∀ sp : Nat → Bool, (∀ p ∈ before, sp p.block = true) → DataW.TrodVars enc P W' sp s.vars (s.fn H (ds ++ gs)).vars pv)
    (hps : before = pa ++ pv) (hk : Stays W W')
    (hok : ∀ (j : Nat) (t : TypeId) (r : Value), f.resultTypes[j]? = some t → (v.resultList f.resultTypes.size)[j]? = some r → Value.okWide P W' .any 0 t r) :
    s.post enc P f apart fresh handsOn again W args v W' := by
  have hold : ∀ p ∈ before, (fun b => decide (b < W.heap.size)) p.block = true := fun p hp => by simpa using hW.lt p hp
  refine ⟨ds, gs, before, [], pa, pv, hW, hres _ _ _, hargs _ hold, hvars _ hold, hk.keptBut _, fun _ => ?_⟩
  have hlt := hW.lt
  obtain ⟨_, _, _, _, _, hz, hn⟩ := hW
  refine ⟨hok, _, _, ([] ++ pa) ++ pv, ⟨[] ++ pa, pv, trodAll_append (hargs _ (fun _ _ => rfl)) (hres _ _ _), hvars _ (fun _ _ => rfl), rfl, ?_, ?_⟩, ?_⟩
  · intro b off hp
    have hp' : MemPlace.cell b off ∈ before := by rw [hps]; simpa using hp
    have := hz b off hp'
    have hb : b < W.heap.size := hlt _ hp'
    unfold World.frozen? at this ⊢
    rw [hk.block b hb]; exact this
  · intro ha
    have := hn ha
    rw [hps] at this
    simpa using this
  · intro p hp _
    rw [hps]
    simpa using hp

/-- a table's cells -/
def pinCells : DataW Unit → Array Value
  | .agg l => ⟨l.map fun d => match d with
    | .lit (.int k n) => .int k n
    | _ => undef⟩
  | _ => #[]

/-- a world with some variables' cells laid by hand -/
def pinWorld (w : World) : List (Nat × DataW Unit) → World
  | [] => w
  | (g, d) :: l => pinWorld { w with heap := w.heap.modify g fun o => match o with
    | .cells _ t fz => .cells (pinCells d) t fz
    | o => o } l

theorem closed_lifted {C : Checked} {os : Os} (started : os.Started) {f : FuncId} {fn : Func} {s : ChangeSpec} {laid : List (String × DataW Unit)} {tb : TypeId} {apart fresh : Bool}
    (own : ownKnob C.prog.godebug = none) (noInit : C.prog.inits.idxOf? f = none) (hfn : C.prog.funcs[f]? = some fn)
    (hp : fn.params = #[]) (hr : fn.resultTypes = #[tb]) (ht : C.prog.underlying tb = some .bool) (hv : s.vars = []) (hs : s.fn H [] = { results := [.lit (.bool true)], args := [] })
    (hcalls : ∀ W, laidMetH C.prog laid W → Calls C.prog f #[] W fun e W' => e = .returned (.bool true) ∧ Stays W W')
    (witness : ∃ (w : World) (tape : Tape) (i : Input), w.os = os ∧ (w.forCall tape i).Shaped C.prog ∧ i.vars = [] ∧ Input.okWide C.prog (w.forCall tape i) .any w.heap.size f i ∧
      ((s.pre enc C.prog fn [] apart (w.forCall tape i).memory i.args ∧ laidMetH C.prog laid (w.forCall tape i).memory) ∧ sizedMet enc C.prog fn (OpenSpec.ofChange s) apart (w.forCall tape i).memory i.args) ∧ ({} : Assume).holds C.prog (lone (Frame.enter C.prog f i.args .normal) [] (w.forCall tape i))) :
    ReturnsInHanded {} C os f .any (fun w args => (s.pre enc C.prog fn [] apart w args ∧ laidMetH C.prog laid w) ∧ sizedMet enc C.prog fn (OpenSpec.ofChange s) apart w args) (s.post enc C.prog fn apart fresh false false) := by
  refine returnsInHanded_of_change_and (C := C) (X := fun w _ => laidMetH C.prog laid w) (fun _ _ _ hh h => h.of_heap hh) own started noInit hfn witness ?_
  intro W base args ds gs before hval0 hW _ _ hL _
  have hW' := hW
  obtain ⟨p, q, hA, hV, rfl, hfz, hnd⟩ := hW
  rw [hp] at hA
  rw [hv] at hV
  obtain ⟨rfl, rfl, rfl⟩ := trodAll_none hA
  obtain ⟨rfl, rfl⟩ := trodVars_none hV
  refine (hcalls _ hL).mono fun e W' ⟨he, hst⟩ => ?_
  subst he
  refine ⟨_, rfl, post_stays (pa := []) (pv := []) hW' (fun b sp hd => ?_) (fun sp _ => ?_) (fun _ _ => ?_) rfl hst (ok_one hr rfl (okWide_bool_mk ht _))⟩
  · simp only [List.append_nil, hs, hr]
    exact trodAll_mk1 (shut_bool ht true)
  · simp only [List.append_nil, hs, hp]
    rfl
  · simp only [List.append_nil, hs, hv]
    rfl

end
end
end Go.Ai

/-! An interpreter for values that are not known: what it cannot look at it is told, and it says what it was told. Definitions alone. -/
namespace Go.Ai
open Go
noncomputable section

/-- an answer: look yourself; yes; no -/
inductive An where
  | ev | yes | no
  /-- it is that number -/
  | at (z : Int)
/-- the answers that are left, what was taken for granted -/
structure Orc where
  l : List An
  asm : List Prop
inductive R (α : Type) where
  | ok (a : α) (o : Orc)
  | fail (n : Nat)
  /-- there is no answer left: what is asked, how it goes on -/
  | ask (b : Bool) (k : An → R α)
  | askI (i : Int) (k : An → R α)
def OM (α : Type) := Orc → R α
def R.bind {α β : Type} (x : R α) (f : α → OM β) : R β := match x with
  | .ok a o => f a o
  | .fail n => .fail n
  | .ask b k => .ask b fun c => (k c).bind f
  | .askI i k => .askI i fun c => (k c).bind f
def OM.bind {α β : Type} (x : OM α) (f : α → OM β) : OM β := fun o => (x o).bind f
def OM.ret {α : Type} (a : α) : OM α := fun o => .ok a o
def OM.no {α : Type} (n : Nat) : OM α := fun _ => .fail n

def ask1 (b : Bool) (r : List An) (asm : List Prop) : An → R Bool
  | .ev => .ok b ⟨r, asm⟩
  | .yes => .ok true ⟨r, (b = true) :: asm⟩
  | .no => .ok false ⟨r, (b = false) :: asm⟩
  | .at _ => .fail 0
def ask (b : Bool) : OM Bool := fun o => match o.l with
  | [] => .ask b (ask1 b [] o.asm)
  | a :: r => ask1 b r o.asm a
/-- it must be so -/
def want {α : Type} (n : Nat) (b : Bool) (x : OM α) : OM α := (ask b).bind fun c => match c with
  | true => x
  | false => OM.no n
/-- can it be looked at? (the answer is taken as it comes) -/
def seen1 (r : List An) (asm : List Prop) : An → R Bool
  | .ev => .ok true ⟨r, asm⟩
  | _ => .ok false ⟨r, asm⟩
def seen (b : Bool) : OM Bool := fun o => match o.l with
  | [] => .ask b (seen1 [] o.asm)
  | a :: r => seen1 r o.asm a
/-- the same; or: so many, one by one -/
def seen31 (r : List An) (asm : List Prop) : An → R (Bool × Option Nat)
  | .ev => .ok (true, none) ⟨r, asm⟩
  | .at z => .ok (false, some z.toNat) ⟨r, asm⟩
  | _ => .ok (false, none) ⟨r, asm⟩
def seen3 (b : Bool) : OM (Bool × Option Nat) := fun o => match o.l with
  | [] => .ask b (seen31 [] o.asm)
  | a :: r => seen31 r o.asm a
/-- another way, if the next answer says so -/
def peek1 (r : List An) (asm : List Prop) : An → R Bool
  | .at (.negSucc 0) => .ok true ⟨r, asm⟩
  | t => .ok false ⟨t :: r, asm⟩
def tagE (b : Bool) : Bool := b
def peek (b : Bool) : OM Bool := fun o => match o.l with
  | [] => .ask b (peek1 [] o.asm)
  | a :: r => peek1 r o.asm a
def conc1 (i : Int) (r : List An) (asm : List Prop) : An → R Int
  | .at z => .ok z ⟨r, (i = z) :: asm⟩
  | _ => .ok i ⟨r, asm⟩
/-- which number is it? (it may stay open) -/
def concI (i : Int) : OM Int := fun o => match o.l with
  | [] => .askI i (conc1 i [] o.asm)
  | a :: r => conc1 i r o.asm a
def need {α : Type} (p : Prop) (x : OM α) : OM α := fun o => x ⟨o.l, p :: o.asm⟩
def lift {α : Type} (n : Nat) (x : Option α) : OM α := fun o => match x with
  | some a => .ok a o
  | none => .fail n

/-! ### cells that are not seen -/
def intAt (cs : List Value) (i : Nat) : Int := match cs[i]? with
  | some (.int _ x) => x
  | _ => 0
def boolAt (cs : List Value) (i : Nat) : Bool := match cs[i]? with
  | some (.bool x) => x
  | _ => false
def strAt (cs : List Value) (i : Nat) : ByteArray := match cs[i]? with
  | some (.string x) => x
  | _ => ⟨#[]⟩
def byteAt (s : ByteArray) (i : Nat) : Int := match s.data.toList[i]? with
  | some b => b.toNat
  | none => 0
def sub (cs : List Value) (i n : Nat) : List Value := (cs.drop i).take n
def setAt (cs : List Value) (i : Nat) (vs : List Value) : List Value := cs.take i ++ vs ++ cs.drop (i + vs.length)
def toU8 : Value → UInt8
  | .int _ n => UInt8.ofNat n.toNat
  | _ => 0
def bytesIn (cs : List Value) (i n : Nat) : List UInt8 := (sub cs i n).map toU8
def AllC (l : List Value) : Prop := ∀ v ∈ l, isCell v = true
def AllB (l : List Value) : Prop := ∀ v ∈ l, ∃ n, v = .int .u8 n

/-! ### operations that neither read nor change memory -/
def eqS (a b : ByteArray) : Bool := decide (a.data.toList = b.data.toList)
def shlI (k : IntKind) (n m : Int) : Int := k.wrap (n * 2 ^ (min m.toNat k.bits))
def shrI (k : IntKind) (n m : Int) : Int := n / (2 ^ (min m.toNat k.bits))
/-- a number of the kind, or what is left of it -/
def wrapO (k : IntKind) (z : Int) : OM Value := (ask (decide (k.min ≤ z ∧ z ≤ k.max))).bind fun c => match c with
  | true => .ret (.int k z)
  | false => .ret (.int k (k.wrap z))
def quoI (k : IntKind) (n m : Int) : Int := k.wrap (n.tdiv m)

/-- are two single cells the same? -/
def eqLeaf (cx : Cx) (t : TypeId) (a b : Value) : Option Bool := match cx.desc t with
  | some (.int _) => match a, b with
    | .int k n, .int j m => match decide (k = j) with
      | true => some (n == m)
      | false => none
    | _, _ => none
  | some .bool => match a, b with
    | .bool n, .bool m => some (n == m)
    | _, _ => none
  | some .string => match a, b with
    | .string n, .string m => some (eqS n m)
    | _, _ => none
  | _ => none
def eqFs (cx : Cx) : List Field → Nat → List Value → List Value → Option Bool
  | [], _, [], [] => some true
  | f :: l, i, a :: xs, b :: ys => match Nat.beq f.offset i && !decide (f.name = "_") with
    | true => match eqLeaf cx f.type a b with
      | some c => match eqFs cx l (i + 1) xs ys with
        | some d => some (c && d)
        | none => none
      | none => none
    | false => none
  | _, _, _, _ => none
def eqAgg (cx : Cx) (t : TypeId) (xs ys : List Value) : Option Bool := match cx.desc t with
  | some (.struct fs) => match !cx.P.stoodInHeld t && !cx.P.eqGuardType cx.P.depth t with
    | true => eqFs cx fs.toList 0 xs ys
    | false => none
  | _ => none

def notB (op : BinOp) (b : Bool) : Option Value := match op with
  | .eql => some (.bool b)
  | .neq => some (.bool (!b))
  | _ => none

def intO (op : BinOp) (k k' : IntKind) (n m : Int) : OM Value := match op with
  | .shl => (ask (decide (m < 0))).bind fun c => match c with
    | false => wrapO k (n * 2 ^ (min m.toNat k.bits))
    | true => .no 2
  | .shr => (ask (decide (m < 0))).bind fun c => match c with
    | false => .ret (.int k (n / 2 ^ (min m.toNat k.bits)))
    | true => .no 3
  | _ => match decide (k = k') with
    | false => .no 4
    | true => match op with
      | .quo => (ask (m == 0)).bind fun c => match c with
        | false => (ask (decide (0 ≤ n ∧ 0 < m))).bind fun c => match c with
          | true => wrapO k (n / m)
          | false => .ret (.int k (quoI k n m))
        | true => .no 5
      | .rem => (ask (m == 0)).bind fun c => match c with
        | false => (ask (decide (0 ≤ n ∧ 0 < m))).bind fun c => match c with
          | true => .ret (.int k (n % m))
          | false => .ret (.int k (n.tmod m))
        | true => .no 6
      | .and | .or | .xor | .andNot => .ret (.int k (bitsI op k n m))
      | .add => wrapO k (n + m)
      | .sub => wrapO k (n - m)
      | .mul => wrapO k (n * m)
      | _ => lift 7 (binInt op k n m)

def strO (op : BinOp) (a b : ByteArray) : OM Value := match op with
  | .add => want 8 (decide (a.size + b.size ≤ 9223372036854775807)) (.ret (.string (a ++ b)))
  | _ => lift 9 (notB op (eqS a b))

def binO (cx : Cx) (op : BinOp) (t : TypeId) (a b : Value) (x y : Operand) : OM Value :=
  match a with
  | .int k n => match b with
    | .int k' m => intO op k k' n m
    | _ => .no 10
  | .string s => match b with
    | .string u => match op with
      | .add | .eql | .neq => strO op s u
      | _ => lift 11 (binOpA cx op t a b x y)
    | _ => .no 12
  | .agg xs => match b with
    | .agg ys => match eqAgg cx t xs.toList ys.toList with
      | some c => lift 13 (notB op c)
      | none => lift 14 (binOpA cx op t a b x y)
    | _ => .no 15
  | _ => lift 16 (match binOpA cx op t a b x y with
    | some v => some v
    | none => eqNilA cx op t a b)

def boundO (v : Value) (y : Nat) : OM Nat := match v with
  | .int _ i => (concI i).bind fun i => want 17 (decide (0 ≤ i ∧ i ≤ (y : Int))) (.ret i.toNat)
  | _ => .no 18
def boundOrO (d : Nat) (y : Nat) : Option Value → OM Nat
  | none => .ret d
  | some v => boundO v y

def indexO (cx : Cx) (t : TypeId) (x i : Value) : OM Value := match x with
  | .string s => match i with
    | .int _ k => match cx.desc t with
      | some .string => want 19 (decide (0 ≤ k ∧ k < (s.size : Int))) (.ret (.int .u8 (byteAt s k.toNat)))
      | _ => .no 20
    | _ => .no 21
  | _ => lift 22 (indexA cx t x i)

def indexAddrO (cx : Cx) (t : TypeId) (x i : Value) : OM Value := match i with
  | .int _ k => match x with
    | .pointer (some a) => match cx.desc t with
      | some (.array m e) => match cx.size e with
        | some n => match a.spot with
          | none => (concI k).bind fun k => want 23 (decide (0 ≤ k ∧ k < (m : Int))) (.ret (.pointer (some ⟨a.block, a.off + k.toNat * n, none⟩)))
          | some _ => .no 24
        | none => .no 25
      | _ => .no 26
    | .slice (some a) len _ => match cx.desc t with
      | some (.slice e) => match cx.size e with
        | some n => match a.spot with
          | none => want 27 (decide (0 ≤ k ∧ k < (len : Int))) (.ret (.pointer (some ⟨a.block, a.off + k.toNat * n, none⟩)))
          | some _ => .no 28
        | none => .no 29
      | _ => .no 30
    | _ => .no 31
  | _ => .no 32

def sliceStrO (cx : Cx) (t : TypeId) (x : Value) (lo hi : Option Value) : OM Value := match x with
  | .string s => match cx.desc t with
    | some .string => (boundOrO s.size s.size hi).bind fun h => (boundOrO 0 h lo).bind fun l => .ret (.string (s.extract l h))
    | _ => .no 33
  | .pointer (some a) => match cx.desc t with
    | some (.array m e) => match cx.size e with
      | some n => match a.spot.isNone && Nat.ble m 70368744177664 with
        | true => (boundOrO m m hi).bind fun h => (boundOrO 0 h lo).bind fun l => (ask (Nat.beq m l)).bind fun q => match q with
          | true => .ret (.slice (some a) (h - l) (m - l))
          | false => .ret (.slice (some ⟨a.block, a.off + l * n, none⟩) (h - l) (m - l))
        | false => .no 163
      | none => .no 164
    | _ => .no 165
  | _ => lift 34 (sliceP cx t x lo hi)

def pureO (cx : Cx) (tm : T Value) : Op → OM Value
  | .pick c a b => match ev cx tm c with
    | some (.bool d) => (ask d).bind fun d => match d with
      | true => lift 35 (ev cx tm a)
      | false => lift 36 (ev cx tm b)
    | _ => .no 37
  | .binOp op t x y _ => match ev cx tm x with
    | some a => match ev cx tm y with
      | some b => binO cx op t a b x y
      | none => .no 38
    | none => .no 39
  | .index t x i => match ev cx tm x with
    | some a => match ev cx tm i with
      | some b => indexO cx t a b
      | none => .no 40
    | none => .no 41
  | .indexAddr t x i => match ev cx tm x with
    | some a => match ev cx tm i with
      | some b => indexAddrO cx t a b
      | none => .no 42
    | none => .no 43
  | .slice t x lo hi mx => match mx with
    | some _ => .no 44
    | none => match ev cx tm x with
      | some a => match opt cx tm lo with
        | some l => match opt cx tm hi with
          | some h => sliceStrO cx t a l h
          | none => .no 45
        | none => .no 46
      | none => .no 47
  | .convert s d x => match ev cx tm x with
    | some (.int k n) => match cx.desc d, cx.desc s with
      | some (.int k'), some (.int _) => wrapO k' n
      | _, _ => lift 47 (pureOp cx tm (.convert s d x))
    | _ => lift 47 (pureOp cx tm (.convert s d x))
  | op => lift 48 (pureOp cx tm op)

/-! ### operations that read memory -/
def cellO (cx : Cx) (t : TypeId) (cs : List Value) (i : Nat) : Option (Value × Prop) := match cx.desc t with
  | some (.int k) => some (.int k (intAt cs i), cs[i]? = some (.int k (intAt cs i)))
  | some .bool => some (.bool (boolAt cs i), cs[i]? = some (.bool (boolAt cs i)))
  | some .string => some (.string (strAt cs i), cs[i]? = some (.string (strAt cs i)))
  | _ => none
def fieldsO (cx : Cx) (cs : List Value) (off : Nat) : List Field → Nat → OM (List Value)
  | [], _ => .ret []
  | f :: l, i => match Nat.beq f.offset i, cellO cx f.type cs (off + i) with
    | true, some (v, p) => need p ((fieldsO cx cs off l (i + 1)).bind fun vs => .ret (v :: vs))
    | _, _ => .no 50

def loadO (cx : Cx) (tm : T Value) (st : St) (t : TypeId) (x : Operand) : OM Value := match ev cx tm x with
  | some (.pointer (some a)) => match st.hp.get a.block with
    | some (.row _ cs _ _) => (seen (Nat.ble a.off cs.length)).bind fun s => match s with
      | true => lift 51 (readOp cx tm st (.load t x))
      | false => match a.spot with
        | some _ => .no 52
        | none => match cx.desc t, cx.size t with
          | some (.struct fs), some n => match Nat.beq fs.size n && Nat.blt 0 n with
            | true => (fieldsO cx cs a.off fs.toList 0).bind fun vs => .ret (.agg ⟨vs⟩)
            | false => .no 53
          | some _, some _ => match cellO cx t cs a.off with
            | some (v, p) => need p (.ret v)
            | none => .no 54
          | _, _ => .no 55
    | _ => .no 56
  | _ => .no 57

/-- so many cells of a row: seen, or not -/
def explO (cx : Cx) (e : TypeId) (cs : List Value) : Nat → Nat → OM (List Value)
  | 0, _ => .ret []
  | n + 1, i => match cellO cx e cs i with
    | some (v, p) => need p ((explO cx e cs n (i + 1)).bind fun l => .ret (v :: l))
    | none => .no 190
def partO (cx : Cx) (st : St) (a : Addr) (n : Nat) : OM (List Value) := match st.hp.get a.block with
  | some (.row e cs _ _) => (seen3 (Nat.ble (a.off + n) cs.length)).bind fun s => match s.1 with
    | true => lift 58 (readCells st a n)
    | false => match a.spot with
      | some _ => want 59 (Nat.beq n 0) (.ret [])
      | none => match s.2 with
       | some k => want 191 (Nat.beq n k) (explO cx e cs k a.off)
       | none => (ask (Nat.beq a.off 0 && Nat.beq n cs.length)).bind fun w => match w with
        | true => need (AllC cs) (.ret cs)
        | false => want 60 (Nat.ble (a.off + n) cs.length) (need (AllC (sub cs a.off n)) (.ret (sub cs a.off n)))
  | _ => .no 61

def convBO (cx : Cx) (tm : T Value) (st : St) (s d : TypeId) (x : Operand) : OM Value := match ev cx tm x with
  | some (.slice (some a) n _) => match cx.desc s, cx.desc d with
    | some (.slice e), some .string => match cx.desc e with
      | some (.int .u8) => match st.hp.get a.block with
        | some (.row _ cs _ _) => (seen (Nat.ble (a.off + n) cs.length)).bind fun sn => match sn with
          | true => (lift 62 (readCells st a n)).bind fun l => lift 63 (match bytesOfCells l with | some bs => some (.string ⟨⟨bs⟩⟩) | none => none)
          | false => match a.spot with
            | some _ => .no 64
            | none => want 65 (Nat.ble (a.off + n) cs.length) (need (AllB (sub cs a.off n)) (.ret (.string ⟨⟨bytesIn cs a.off n⟩⟩)))
        | _ => .no 66
      | _ => .no 67
    | _, _ => lift 68 (readOp cx tm st (.convert s d x))
  | _ => lift 69 (readOp cx tm st (.convert s d x))

def sliceRO (cx : Cx) (st : St) (t : TypeId) (x : Value) (lo hi : Option Value) : OM Value := match x with
  | .slice a len cap => match cx.desc t with
    | some (.slice e) => match cx.size e with
      | some n => match a with
        | none => (boundOrO len cap hi).bind fun h => (boundOrO 0 h lo).bind fun l => .ret (.slice none (h - l) (cap - l))
        | some a => (ask (isOpen cap)).bind fun c => match c with
          | false => match a.spot with
            | some _ => .no 70
            | none => (boundOrO len cap hi).bind fun h => (boundOrO 0 h lo).bind fun l => (ask (Nat.beq cap l)).bind fun q => match q with
              | true => .ret (.slice (some a) (h - l) (cap - l))
              | false => .ret (.slice (some ⟨a.block, a.off + l * n, none⟩) (h - l) (cap - l))
          | true => match st.hp.get a.block with
            | some (.row e2 cs true _) => match cx.size e2 with
              | some m => match a.spot.isNone && Nat.beq m n && Nat.ble 1 n with
                | true => want 71 (Nat.beq a.off ((openCap - cap) * n)) (want 72 (Nat.ble (a.off + len * n) cs.length) (want 73 (Nat.ble cap openCap)
                    ((boundOrO len len hi).bind fun h => (boundOrO 0 h lo).bind fun l => (ask (Nat.beq l 0 || Nat.blt l len)).bind fun q => match q with
                      | true => .ret (.slice (some ⟨a.block, a.off + l * n, none⟩) (h - l) (cap - l))
                      | false => .ret (.slice (some ⟨a.block, a.off, some (l * n)⟩) 0 (cap - l)))))
                | false => .no 74
              | none => .no 75
            | _ => .no 76
      | none => .no 77
    | _ => .no 78
  | _ => .no 79

def readO (cx : Cx) (tm : T Value) (st : St) : Op → OM Value
  | .load t x => loadO cx tm st t x
  | .convert s d x => convBO cx tm st s d x
  | .slice t x lo hi mx => match mx with
    | some _ => lift 80 (readOp cx tm st (.slice t x lo hi mx))
    | none => match ev cx tm x with
      | some a => match opt cx tm lo with
        | some l => match opt cx tm hi with
          | some h => sliceRO cx st t a l h
          | none => .no 81
        | none => .no 82
      | none => .no 83
  | op => lift 84 (readOp cx tm st op)

/-! ### operations that change memory -/
/-- cells into a row, where it is not seen -/
def writeO (st : St) (a : Addr) (vs : List Value) : OM St := match st.hp.get a.block with
  | some (.row e cs o wr) => (seen (Nat.ble (a.off + vs.length) cs.length)).bind fun s => match s with
    | true => lift 85 (writeCells st a vs)
    | false => match wr && a.spot.isNone with
      | true => want 86 (Nat.ble (a.off + vs.length) cs.length) (need (AllC vs) (.ret { st with hp := st.hp.set a.block (.row e (setAt cs a.off vs) o true) }))
      | false => .no 87
  | _ => .no 88

def storeO (cx : Cx) (tm : T Value) (st : St) (t : TypeId) (x y : Operand) : OM (Value × St) := match ev cx tm x with
  | some (.pointer (some a)) => match ev cx tm y with
    | some v => match cx.size t with
      | some n => match Nat.beq v.cells.size n with
        | true => (writeO st a v.cells.toList).bind fun st' => .ret (undef, st')
        | false => .no 89
      | none => .no 90
    | none => .no 91
  | _ => .no 92

/-- what is to be put behind -/
def contentO (cx : Cx) (st : St) (zl : List Value) (size : Nat) (xd : TypeDesc) (x : Value) : OM (Nat × List Value) := match xd with
  | .slice _ => match x with
    | .slice oa n _ => match oa with
      | none => (ask (Nat.beq n 0)).bind fun z => match z with
        | true => .ret (0, [])
        | false => .no 93
      | some a => (partO cx st a (n * size)).bind fun l => .ret (n, l)
    | _ => .no 94
  | _ => lift 95 (contentZ st zl size xd x)

def growO (e : TypeId) (old l : List Value) (need' : Nat) (hp : T AObj) (ct : Nat) : OM (Value × St) :=
  need (AllC l) (.ret (.slice (some ⟨ct, 0, none⟩) need' openCap, ⟨hp.set ct (.row e (old ++ l) true true), ct + 1⟩))

def appendToO (cx : Cx) (e : TypeId) (i : TypeInfo) (s : Value) (n : Nat) (l : List Value) (st : St) : OM (Value × St) := match s with
  | .slice base len cap => match base with
    | none => want 96 (Nat.beq len 0 && Nat.beq cap 0) ((ask (Nat.beq n 0)).bind fun z => match z with
      | true => .ret (.slice none 0 0, st)
      | false => growO e [] l n st.hp st.ct)
    | some a => (ask (isOpen cap)).bind fun c => match c with
      | false => match a.spot with
        | some _ => .no 97
        | none => (ask (Nat.ble (len + n) cap)).bind fun f => match f with
          | true => (writeO st ⟨a.block, a.off + len * i.size, none⟩ l).bind fun st' => .ret (.slice (some a) (len + n) cap, st')
          | false => (partO cx st a (len * i.size)).bind fun old => growO e old l (len + n) st.hp st.ct
      | true => match st.hp.get a.block with
        | some (.row e2 cs true wr) => match cx.size e2 with
          | some m => match a.spot.isNone && Nat.beq m i.size && Nat.ble 1 i.size && wr with
            | true => want 98 (Nat.beq a.off ((openCap - cap) * i.size)) (want 99 (Nat.ble (a.off + len * i.size) cs.length) (want 100 (Nat.ble cap openCap)
                ((ask (Nat.beq n 0)).bind fun z => match z with
                  | true => .ret (.slice (some a) len cap, st)
                  | false => (ask (Nat.ble (a.off + (len + n) * i.size) cs.length)).bind fun f => match f with
                    | true => (writeO st ⟨a.block, a.off + len * i.size, none⟩ l).bind fun st' => .ret (.slice (some a) (len + n) cap, st')
                    | false => match Nat.beq e2 e with
                      | true => (partO cx st a (len * i.size)).bind fun old => growO e old l (len + n) (st.hp.del a.block) st.ct
                      | false => .no 101)))
            | false => .no 102
          | none => .no 103
        | _ => .no 104
  | _ => .no 105

def appendO (cx : Cx) (argTypes : List TypeId) (s x : Value) (st : St) : OM (Value × St) := match argTypes with
  | [sT, xT] => match cx.desc sT, cx.desc xT with
    | some (.slice e), some xd => match cx.ty.get e with
      | some i => match zeroN cx e i.size with
        | some zl => (contentO cx st zl i.size xd x).bind fun q => match s with
          | .slice _ len _ => match Nat.ble 1 i.size && Nat.ble 1 i.bytes with
            | true => want 106 (Nat.ble ((len + q.1) * i.bytes) 70368744177664 && Nat.ble (len + q.1) 70368744177664) (appendToO cx e i s q.1 q.2 st)
            | false => .no 107
          | _ => .no 108
        | none => .no 109
      | none => .no 110
    | _, _ => .no 111
  | _ => .no 112

/-- so many cells of one row over the first ones of a row that is seen: how many is open -/
def pickI (b : Bool) (x y : Int) : Int := match b with | true => x | false => y
def mixE (k : IntKind) (cs : List Value) (off n : Nat) : List Value → Nat → Option (List Value)
  | [], _ => some []
  | d :: l, i => match d with
    | .int k' z => match decide (k' = k) with
      | true => match mixE k cs off n l (i + 1) with
        | some r => some (.int k (pickI (Nat.blt i n) (intAt cs (off + i)) z) :: r)
        | none => none
      | false => none
    | _ => none
def AllK (k : IntKind) (l : List Value) : Prop := ∀ v ∈ l, ∃ n, v = .int k n
def copyE (cx : Cx) (st : St) (a b : Addr) (n : Nat) : OM St := match st.hp.get a.block, st.hp.get b.block with
  | some (.row e ds o true), some (.row e2 cs _ _) => match cx.desc e2, a.spot.isNone && (b.spot.isNone && Nat.beq a.off 0) with
    | some (.int k), true => want 192 (Nat.ble n ds.length) (want 193 (Nat.ble (b.off + n) cs.length) (need (AllK k (sub cs b.off n)) ((lift 194 (mixE k cs b.off n ds 0)).bind fun l => .ret { st with hp := st.hp.set a.block (.row e l o true) })))
    | _, _ => .no 195
  | _, _ => .no 196
def copyO (cx : Cx) (dT : TypeId) (d x : Value) (st : St) : OM (Value × St) := match d with
  | .slice (some a) dl _ => match x with
    | .slice (some b) sl _ => match cx.desc dT with
      | some (.slice e) => match cx.size e with
        | some n => (match b.spot with | none => peek (tagE (Nat.ble (b.off + Nat.min sl dl * n) (match st.hp.get b.block with | some (.row _ cs _ _) => cs.length | _ => 0))) | some _ => .ret false).bind fun w => match w with
          | true => (copyE cx st a b (Nat.min sl dl * n)).bind fun st' => .ret (goInt (Nat.min sl dl), st')
          | false => (partO cx st b (Nat.min sl dl * n)).bind fun l => (writeO st a l).bind fun st' => .ret (goInt (Nat.min sl dl), st')
        | none => .no 113
      | _ => .no 114
    | _ => lift 115 (copyA cx dT d x st)
  | _ => lift 116 (copyA cx dT d x st)

def heavyO (cx : Cx) (tm : T Value) (st : St) (op : Op) : OM (Value × St) := match op with
  | .store t x y => storeO cx tm st t x y
  | .call c => match c.callee with
    | .builtin b => match evs cx tm c.args.toList with
      | some as => match b with
        | .append => match as with
          | [s, x] => appendO cx c.argTypes.toList s x st
          | _ => .no 117
        | .copy => match as, c.argTypes.toList with
          | [d, x], dT :: _ => copyO cx dT d x st
          | _, _ => .no 118
        | _ => lift 119 (heavyCall cx tm st c)
      | none => .no 120
    | _ => .no 121
  | op => lift 122 (heavyOp cx tm st op)

/-! ### running code -/
abbrev RunO := Code → Nat → T Value → St → OM (Ex × T Value × St)
structure OvO where
  fn : Nat → Option (List Value → St → OM (Value × St))
  lp : Nat → Option (Code × (Nat → T Value → St → OM (Ex × T Value × St)))

/-- a number of a loop's code -/
def dstSum : List Oper → Nat → Nat
  | [], n => n
  | o :: l, n => dstSum l (Nat.mod (n * 31 + (match o.dst with | some t => t + 1 | none => 0)) 1000003)
def keyOf : Code → Nat → Nat
  | .region id ops _, n => dstSum ops.toList (Nat.mod (n * 37 + id) 1000003)
  | .seq a b, n => keyOf b (keyOf a n)
  | .cond _ a b, n => keyOf b (keyOf a (n + 1))
  | .block id a, n => keyOf a (n * 3 + id)
  | .loop a, n => keyOf a (n + 5)
  | .scope a, n => keyOf a (n + 7)
  | .exit id, n => n * 5 + id
  | _, n => n + 11

def callAO (cx : Cx) (ov : Ov) (ovO : OvO) (ih : RunO) (f : Nat) (args : List Value) (st : St) : OM (Value × St) :=
  match ovO.fn f with
  | some g => g args st
  | none => match ov f with
    | some g => lift 130 (g args st)
    | none => match cx.fn.get f with
      | some fn => match fn.body with
        | some c => match Nat.ble args.length fn.ntmps with
          | true => (ih c fn.ntmps (setParams args 0 .nil) st).bind fun q => match decide (fn.name = "runtime.NumGoroutine") with
            | false => match q.1 with
              | .exit _ | .goto _ => .no 131
              | _ => match resultsOf cx q.2.1 q.2.2 fn.results.toList with
                | some [v] => .ret (v, q.2.2)
                | some vs => .ret (.tuple ⟨vs⟩, q.2.2)
                | none => .no 132
            | true => .no 133
          | false => .no 134
        | none => .no 135
      | none => .no 136

def callOpO (cx : Cx) (ov : Ov) (ovO : OvO) (ih : RunO) (tm : T Value) (st : St) : Op → OM (Value × St)
  | .call c => match c.callee with
    | .value f => match ev cx tm f, evs cx tm c.args.toList with
      | some (.func fn first captured), some as => match fn with
        | .func k => callAO cx ov ovO ih k (first.toList ++ as ++ captured.toList) st
        | _ => .no 137
      | _, _ => .no 138
    | _ => .no 139
  | _ => .no 140

/-- rows of a length that is not known -/
def allocO (cx : Cx) (tm : T Value) (op : Op) : OM (AObj × (Nat → Value)) := match op with
  | .convert s d x => match ev cx tm x, cx.desc d, cx.desc s with
    | some (.string b), some (.slice e), some _ => match cx.desc e, cx.size e with
      | some (.int .u8), some 1 => want 141 (Nat.ble b.size 70368744177664) (.ret (.row e (b.data.toList.map fun b => .int .u8 b.toNat) true true, fun id => .slice (some ⟨id, 0, none⟩) b.size openCap))
      | _, _ => .no 141
    | _, _, _ => .no 141
  | .makeSlice t l c => match ev cx tm l, ev cx tm c, cx.desc t with
    | some (.int _ l), some (.int _ c), some (.slice e) => match cx.ty.get e with
      | some i => (concI l).bind fun l => (concI c).bind fun c => want 141 (decide (0 ≤ l ∧ l ≤ c ∧ i.bytes * c ≤ 70368744177664 ∧ c ≤ 70368744177664)) (match zeroN cx e i.size with
        | some z => .ret (.row e (rep c.toNat z) false true, fun id => .slice (some ⟨id, 0, none⟩) l.toNat c.toNat)
        | none => .no 141)
      | none => .no 141
    | _, _, _ => .no 141
  | op => lift 141 (allocOp cx tm op)

def opO (cx : Cx) (ov : Ov) (ovO : OvO) (ih : RunO) (tm : T Value) (st : St) (o : Oper) : OM (Value × St) :=
  match kindOf cx o.op with
  | .pure => (pureO cx tm o.op).bind fun v => .ret (v, st)
  | .alloc => (allocO cx tm o.op).bind fun q => .ret (q.2 st.ct, ⟨st.hp.set st.ct q.1, st.ct + 1⟩)
  | .read => (readO cx tm st o.op).bind fun v => .ret (v, st)
  | .heavy => match isVal o.op with
    | true => callOpO cx ov ovO ih tm st o.op
    | false => heavyO cx tm st o.op

def wantedO (ops : List Oper) (tm : T Value) (o : Oper) : OM Bool := match o.guard with
  | none => .ret true
  | some (j, w) => match ops[j]? with
    | some p => match p.dst with
      | some d => match tm.get d with
        | some (.bool b) => (ask b).bind fun b => .ret (b == w)
        | some (.chan _) => .no 142
        | some _ => .ret false
        | none => .no 143
      | none => .no 144
    | none => .no 145

def opsO (cx : Cx) (ov : Ov) (ovO : OvO) (ih : RunO) (nt : Nat) (all : List Oper) : List Oper → T Value → St → OM (T Value × St)
  | [], tm, st => .ret (tm, st)
  | o :: l, tm, st => (wantedO all tm o).bind fun w => match w with
    | true => (opO cx ov ovO ih tm st o).bind fun q => match putDst nt tm o.dst q.1 with
      | some tm' => opsO cx ov ovO ih nt all l tm' q.2
      | none => .no 146
    | false => match putDst nt tm o.dst undef with
      | some tm' => opsO cx ov ovO ih nt all l tm' st
      | none => .no 147

/-! regions whose order is open -/
def readAtO (cx : Cx) (tm : T Value) (hp : T AObj) (pend : Pend) (bef : Nat) (op : Op) : OM Value := readO cx tm ⟨mergeP bef pend hp, 0⟩ op
def pastO (cx : Cx) (bef : Nat) (tm : T Value) (op : Op) (v : Value) : List (Nat × T AObj × Pend) → OM Unit
  | [] => .ret ()
  | (h, hp, pend) :: l => match bef.testBit h with
    | true => pastO cx bef tm op v l
    | false => (readAtO cx tm hp pend bef op).bind fun u => need (beqV v u = true) (pastO cx bef tm op v l)
def readsO (cx : Cx) (befs : List Nat) (bef : Nat) (hp : T AObj) (pend : Pend) : List (Nat × T Value × Op × Value) → OM Unit
  | [] => .ret ()
  | (r, tm, op, v) :: l => match bef.testBit r with
    | true => readsO cx befs bef hp pend l
    | false => (readAtO cx tm hp pend (befs.getD r 0) op).bind fun u => need (beqV v u = true) (readsO cx befs bef hp pend l)

def stepDO (cx : Cx) (ov : Ov) (ovO : OvO) (ih : RunO) (nt : Nat) (all : List Oper) (befs : List Nat) (i : Nat) (o : Oper) (ds : DS) : OM DS :=
  (wantedO all (limit ds.tm (looks all o)) o).bind fun w => match w with
  | false => lift 148 (putD nt ds o.dst undef)
  | true => match kindOf cx o.op with
    | .pure => (pureO cx (limit ds.tm (looks all o)) o.op).bind fun v => lift 149 (putD nt ds o.dst v)
    | .alloc => (allocO cx (limit ds.tm (looks all o)) o.op).bind fun q => lift 150 (putD nt { ds with st := ⟨ds.st.hp, ds.st.ct + 1⟩, pend := (i, ds.st.ct, q.1) :: ds.pend } o.dst (q.2 ds.st.ct))
    | .read => (readAtO cx (limit ds.tm (looks all o)) ds.st.hp ds.pend (befs.getD i 0) o.op).bind fun v =>
        (pastO cx (befs.getD i 0) (limit ds.tm (looks all o)) o.op v ds.past).bind fun _ => lift 152 (putD nt { ds with reads := (i, limit ds.tm (looks all o), o.op, v) :: ds.reads } o.dst v)
    | .heavy => (opO cx ov ovO ih (limit ds.tm (looks all o)) ⟨mergeP (befs.getD i 0) ds.pend ds.st.hp, ds.st.ct⟩ o).bind fun q =>
        (readsO cx befs (befs.getD i 0) q.2.hp (restP (befs.getD i 0) ds.pend) ds.reads).bind fun _ =>
          lift 153 (putD nt { ds with st := q.2, pend := restP (befs.getD i 0) ds.pend, past := (i, ds.st.hp, ds.pend) :: ds.past } o.dst q.1)

def stepsDO (cx : Cx) (ov : Ov) (ovO : OvO) (ih : RunO) (nt : Nat) (all : List Oper) (befs : List Nat) : Nat → List Oper → DS → OM DS
  | _, [], ds => .ret ds
  | i, o :: l, ds => (stepDO cx ov ovO ih nt all befs i o ds).bind fun ds' => stepsDO cx ov ovO ih nt all befs (i + 1) l ds'

def drawO (cx : Cx) (ov : Ov) (ovO : OvO) (ih : RunO) (nt : Nat) (all : List Oper) (tm : T Value) (st : St) : OM (T Value × St) :=
  match drawOk cx all with
  | true => (stepsDO cx ov ovO ih nt all (befsOf all []) 0 all ⟨tm, st, [], [], []⟩).bind fun ds => .ret (ds.tm, ⟨mergeAll ds.pend ds.st.hp, ds.st.ct⟩)
  | false => .no 154

def scopeO (ih : RunO) (body : Code) (nt : Nat) : Nat → Code → T Value → St → OM (Ex × T Value × St)
  | 0, _, _, _ => .no 155
  | n + 1, c, tm, st => (ih c nt tm st).bind fun q => match q.1 with
    | .goto l => match findLabel body l with
      | some rest => scopeO ih body nt n rest q.2.1 q.2.2
      | none => .ret (.goto l, q.2.1, q.2.2)
    | e => .ret (e, q.2.1, q.2.2)

def condO (ih : RunO) (a b : Code) (nt : Nat) (tm : T Value) (st : St) : Option Value → OM (Ex × T Value × St)
  | some (.bool d) => (ask d).bind fun d => match d with
    | true => ih a nt tm st
    | false => ih b nt tm st
  | _ => .no 156
def seqO (ih : RunO) (b : Code) (nt : Nat) (q : Ex × T Value × St) : OM (Ex × T Value × St) := match q.1 with
  | .normal => ih b nt q.2.1 q.2.2
  | e => .ret (e, q.2.1, q.2.2)
def blockO (id : Nat) (q : Ex × T Value × St) : OM (Ex × T Value × St) := match q.1 with
  | .exit id' => match Nat.beq id' id with
    | true => .ret (.normal, q.2.1, q.2.2)
    | false => .ret (.exit id', q.2.1, q.2.2)
  | e => .ret (e, q.2.1, q.2.2)

def stepO (cx : Cx) (ov : Ov) (ovO : OvO) (ih : RunO) : RunO := fun c nt tm st =>
  match c with
  | .skip => .ret (.normal, tm, st)
  | .label _ => .ret (.normal, tm, st)
  | .ret => .ret (.ret, tm, st)
  | .exit id => .ret (.exit id, tm, st)
  | .goto l => .ret (.goto l, tm, st)
  | .scope a => scopeO ih a nt 100000 a tm st
  | .seq a b => (ih a nt tm st).bind fun q => seqO ih b nt q
  | .cond x a b => condO ih a b nt tm st (ev cx tm x)
  | .block id a => (ih a nt tm st).bind fun q => blockO id q
  | .loop a => match ovO.lp (keyOf a 1) with
    | some (c, g) => need (a = c) (g nt tm st)
    | none => match mapLoop a with
      | some _ => .no 157
      | none => (ih a nt tm st).bind fun q => seqO ih (.loop a) nt q
  | .region _ ops draw => match draw with
    | false => (opsO cx ov ovO ih nt ops.toList ops.toList tm st).bind fun q => .ret (.normal, q.1, q.2)
    | true => (drawO cx ov ovO ih nt ops.toList tm st).bind fun q => .ret (.normal, q.1, q.2)
  | _ => .no 158

def runO (cx : Cx) (ov : Ov) (ovO : OvO) : Nat → RunO
  | 0 => fun _ _ _ _ => .no 159
  | n + 1 => stepO cx ov ovO (runO cx ov ovO n)

def callO (cx : Cx) (ov : Ov) (ovO : OvO) (n : Nat) (f : Nat) (args : List Value) (st : St) : OM (Value × St) := callAO cx ov ovO (runO cx ov ovO n) f args st

end
end Go.Ai

/-! What the interpreter for open values says is what the other one says, if what it took for granted holds. -/
namespace Go.Ai
open Go

def Holds : List Prop → Prop
  | [] => True
  | p :: l => p ∧ Holds l

/-- if all that was taken for granted holds, so does what is said of the result -/
def OM.Ok {α : Type} (x : OM α) (A : α → Prop) : Prop := ∀ o a o', x o = .ok a o' → Holds o'.asm → Holds o.asm ∧ A a

theorem ok_bind {α β : Type} {x : OM α} {f : α → OM β} {A : α → Prop} {B : β → Prop} (h : x.Ok A) (h' : ∀ a, (f a).Ok fun b => A a → B b) : (x.bind f).Ok B := by
  intro o b o' hr hh
  unfold OM.bind at hr
  cases hx : x o with
  | ok a o1 =>
    rw [hx] at hr
    obtain ⟨h1, h2⟩ := h' a _ _ _ hr hh
    obtain ⟨h3, h4⟩ := h _ _ _ hx h1
    exact ⟨h3, h2 h4⟩
  | fail n => rw [hx] at hr; cases hr
  | ask c k => rw [hx] at hr; cases hr
  | askI c k => rw [hx] at hr; cases hr
theorem ok_mono {α : Type} {x : OM α} {A B : α → Prop} (h : x.Ok A) (hab : ∀ a, A a → B a) : x.Ok B := fun o a o' hr hh => ⟨(h o a o' hr hh).1, hab _ (h o a o' hr hh).2⟩
theorem ok_ret {α : Type} {a : α} {A : α → Prop} (h : A a) : (OM.ret a).Ok A := by
  intro o b o' hr hh
  simp [OM.ret] at hr
  obtain ⟨rfl, rfl⟩ := hr
  exact ⟨hh, h⟩
theorem ok_no {α : Type} {n : Nat} {A : α → Prop} : (OM.no n : OM α).Ok A := by
  intro o b o' hr hh
  simp [OM.no] at hr
theorem ok_ask {b : Bool} : (ask b).Ok fun c => c = b := by
  intro o c o' hr hh
  unfold ask at hr
  split at hr <;> (try (cases hr; done))
  unfold ask1 at hr
  split at hr <;> (try (cases hr; done)) <;> (simp at hr; obtain ⟨rfl, rfl⟩ := hr)
  · exact ⟨hh, rfl⟩
  · exact ⟨hh.2, hh.1.symm⟩
  · exact ⟨hh.2, hh.1.symm⟩
theorem ok_want {α : Type} {n : Nat} {b : Bool} {x : OM α} {A : α → Prop} (h : x.Ok fun a => b = true → A a) : (want n b x).Ok A := by
  unfold want
  refine ok_bind ok_ask fun c => ?_
  cases c with
  | true => exact ok_mono h fun a ha hb => ha hb.symm
  | false => exact ok_no
theorem ok_seen {b : Bool} : (seen b).Ok fun _ => True := by
  intro o c o' hr hh
  unfold seen at hr
  split at hr <;> (try (cases hr; done))
  unfold seen1 at hr
  split at hr <;> (simp at hr; obtain ⟨rfl, rfl⟩ := hr) <;> exact ⟨hh, trivial⟩
theorem ok_seen3 {b : Bool} : (seen3 b).Ok fun _ => True := by
  intro o c o' hr hh
  unfold seen3 at hr
  split at hr <;> (try (cases hr; done))
  unfold seen31 at hr
  split at hr <;> (simp at hr; obtain ⟨rfl, rfl⟩ := hr) <;> exact ⟨hh, trivial⟩
theorem ok_peek {b : Bool} : (peek b).Ok fun _ => True := by
  intro o c o' hr hh
  unfold peek at hr
  split at hr <;> (try (cases hr; done))
  unfold peek1 at hr
  split at hr <;> (simp at hr; obtain ⟨rfl, rfl⟩ := hr) <;> exact ⟨hh, trivial⟩
theorem ok_conc {i : Int} : (concI i).Ok fun z => z = i := by
  intro o c o' hr hh
  unfold concI at hr
  split at hr <;> (try (cases hr; done))
  unfold conc1 at hr
  split at hr <;> (simp at hr; obtain ⟨rfl, rfl⟩ := hr)
  · exact ⟨hh.2, hh.1.symm⟩
  · exact ⟨hh, rfl⟩
theorem ok_need {α : Type} {p : Prop} {x : OM α} {A : α → Prop} (h : x.Ok fun a => p → A a) : (need p x).Ok A := by
  intro o a o' hr hh
  unfold need at hr
  obtain ⟨⟨h1, h2⟩, h3⟩ := h _ _ _ hr hh
  exact ⟨h2, h3 h1⟩
theorem ok_lift {α : Type} {n : Nat} {x : Option α} : (lift n x).Ok fun a => x = some a := by
  intro o a o' hr hh
  unfold lift at hr
  split at hr <;> (try (cases hr; done))
  rename_i hx
  simp at hr; obtain ⟨rfl, rfl⟩ := hr
  exact ⟨hh, rfl⟩

/-! ### lists of cells -/
theorem dropCells_some : ∀ (n : Nat) (l : List Value), n ≤ l.length → dropCells n l = some (l.drop n)
  | 0, l, _ => by simp [dropCells]
  | n + 1, [], h => by simp at h
  | n + 1, v :: l, h => by simp only [dropCells, List.drop_succ_cons]; exact dropCells_some n l (by simpa using h)
theorem takeC_some : ∀ (n : Nat) (l : List Value), n ≤ l.length → AllC (l.take n) → takeC n l = some (l.take n)
  | 0, l, _, _ => by simp [takeC]
  | n + 1, [], h, _ => by simp at h
  | n + 1, v :: l, h, hc => by
    have h1 : isCell v = true := hc v (by simp)
    have h2 := takeC_some n l (by simpa using h) (fun u hu => hc u (by simp [hu]))
    simp [takeC, h1, h2]
theorem readCells_some {st : St} {a : Addr} {n : Nat} {e : TypeId} {cs : List Value} {o wr : Bool} (hs : a.spot = none) (hg : st.hp.get a.block = some (.row e cs o wr)) (hle : a.off + n ≤ cs.length) (hc : AllC (sub cs a.off n)) :
    readCells st a n = some (sub cs a.off n) := by
  unfold readCells
  cases n with
  | zero => simp [sub]
  | succ n =>
    simp only [hs, hg, dropCells_some a.off cs (by omega)]
    exact takeC_some _ _ (by simp; omega) hc
theorem readCells_one {st : St} {a : Addr} {e : TypeId} {cs : List Value} {o wr : Bool} {v : Value} (hs : a.spot = none) (hg : st.hp.get a.block = some (.row e cs o wr)) (hv : cs[a.off]? = some v) (hc : isCell v = true) :
    readCells st a 1 = some [v] := by
  obtain ⟨hlt, hv⟩ := List.getElem?_eq_some_iff.1 hv
  have hsub : sub cs a.off 1 = [v] := by
    unfold sub
    rw [List.drop_eq_getElem_cons hlt]
    simp [hv]
  rw [readCells_some hs hg (by omega) (by rw [hsub]; intro u hu; simp at hu; subst hu; exact hc), hsub]
theorem over_some : ∀ (vs l : List Value), vs.length ≤ l.length → over vs l = some (vs ++ l.drop vs.length)
  | [], l, _ => by simp [over]
  | v :: vs, [], h => by simp at h
  | v :: vs, x :: l, h => by simp [over, over_some vs l (by simpa using h)]
theorem putCells_some : ∀ (n : Nat) (vs l : List Value), n + vs.length ≤ l.length → putCells n vs l = some (setAt l n vs)
  | 0, vs, l, h => by simp only [putCells]; rw [over_some vs l (by omega)]; simp [setAt]
  | n + 1, vs, [], h => by simp at h
  | n + 1, vs, x :: l, h => by
    simp only [putCells]
    rw [putCells_some n vs l (by simp at h; omega)]
    simp [setAt, Nat.add_right_comm]
theorem allCells_some : ∀ (l : List Value), AllC l → allCells l = true
  | [], _ => rfl
  | v :: l, h => by simp [allCells, h v (by simp), allCells_some l (fun u hu => h u (by simp [hu]))]
theorem bytesOf_some : ∀ (l : List Value), AllB l → bytesOfCells l = some (l.map toU8)
  | [], _ => rfl
  | v :: l, h => by
    obtain ⟨n, rfl⟩ := h v (by simp)
    have := bytesOf_some l (fun u hu => h u (by simp [hu]))
    simp [bytesOfCells, this, toU8]
theorem AllB.cells {l : List Value} (h : AllB l) : AllC l := fun v hv => by obtain ⟨n, rfl⟩ := h v hv; rfl
theorem addr_add {a : Addr} (h : a.spot = none) (n : Nat) : a.add n = ⟨a.block, a.off + n, none⟩ := by
  unfold Addr.add
  cases a
  simp only at h
  subst h
  split
  · rename_i h0; subst h0; rfl
  · rfl

section
variable {P : Program}

/-! ### operations that neither read nor change memory -/
theorem eqS_eq (a b : ByteArray) : eqS a b = (a.toList == b.toList) := by
  unfold eqS
  rw [toList_data, toList_data, Bool.eq_iff_iff, decide_eq_true_iff, beq_iff_eq]

theorem wrap_in {k : IntKind} {z : Int} (h : k.min ≤ z ∧ z ≤ k.max) : k.wrap z = z := by
  cases k <;> simp [IntKind.wrap, IntKind.bits, IntKind.signed, IntKind.min, IntKind.max] at h ⊢ <;> omega
theorem wrapO_ok {k : IntKind} {z : Int} : (wrapO k z).Ok fun v => v = .int k (k.wrap z) := by
  unfold wrapO
  refine ok_bind ok_ask fun c => ?_
  cases c with
  | true =>
    refine ok_ret fun h => ?_
    have h : k.min ≤ z ∧ z ≤ k.max := by simpa using h.symm
    rw [wrap_in h]
  | false => exact ok_ret fun _ => rfl

theorem intO_ok {op : BinOp} {t : TypeId} {k k' : IntKind} {n m : Int} {x y : Operand} : (intO op k k' n m).Ok fun v => binOpA (Cx.of P) op t (.int k n) (.int k' m) x y = some v := by
  have rest : ∀ (c : OM Value) (A : Value → Prop), (decide (k = k') = true → c.Ok A) → (match decide (k = k') with | false => (.no 4 : OM Value) | true => c).Ok A := by
    intro c A h
    cases hk : decide (k = k') with
    | false => exact ok_no
    | true => exact h hk
  cases op <;> simp only [intO]
  case shl =>
    refine ok_bind ok_ask fun c => ?_
    cases c with
    | true => exact ok_no
    | false =>
      refine ok_mono wrapO_ok fun v hv h => ?_
      have h : ¬ m < 0 := by simpa using h.symm
      rw [hv]
      simp [binOpA, quietFlat, binOp, Op.shift, h, quiet, pure, flat]
  case shr =>
    refine ok_bind ok_ask fun c => ?_
    cases c with
    | true => exact ok_no
    | false =>
      refine ok_ret fun h => ?_
      have h : ¬ m < 0 := by simpa using h.symm
      have h2 : n.fdiv (2 ^ (min m.toNat k.bits)) = n / (2 ^ (min m.toNat k.bits)) := Int.fdiv_eq_ediv_of_nonneg _ (by exact Int.pow_nonneg (by omega))
      simp [binOpA, quietFlat, binOp, Op.shift, h, quiet, pure, flat, h2]
  case quo =>
    refine rest _ _ fun hk => ok_bind ok_ask fun c => ?_
    have hk : k = k' := by simpa using hk
    subst hk
    cases c with
    | true => exact ok_no
    | false =>
      have key : (false = (m == 0)) → binOpA (Cx.of P) .quo t (.int k n) (.int k m) x y = some (.int k (k.wrap (n.tdiv m))) := by
        intro h
        have h : ¬ m = 0 := by simpa using h.symm
        simp [binOpA, quietFlat, binOp, Op.intDiv, h, quiet, pure, flat]
      refine ok_bind ok_ask fun d => ?_
      cases d with
      | true =>
        refine ok_mono wrapO_ok fun v hv hd h => ?_
        have hd : 0 ≤ n ∧ 0 < m := by simpa using hd.symm
        rw [hv, key h, Int.tdiv_eq_ediv_of_nonneg hd.1]
      | false => exact ok_ret fun _ h => by rw [key h]; rfl
  case rem =>
    refine rest _ _ fun hk => ok_bind ok_ask fun c => ?_
    have hk : k = k' := by simpa using hk
    subst hk
    cases c with
    | true => exact ok_no
    | false =>
      have key : (false = (m == 0)) → binOpA (Cx.of P) .rem t (.int k n) (.int k m) x y = some (.int k (n.tmod m)) := by
        intro h
        have h : ¬ m = 0 := by simpa using h.symm
        simp [binOpA, quietFlat, binOp, Op.intDiv, h, quiet, pure, flat]
      refine ok_bind ok_ask fun d => ?_
      cases d with
      | true =>
        refine ok_ret fun hd h => ?_
        have hd : 0 ≤ n ∧ 0 < m := by simpa using hd.symm
        rw [key h, Int.tmod_eq_emod_of_nonneg hd.1]
      | false => exact ok_ret fun _ h => by rw [key h]
  case and =>
    refine rest _ _ fun hk => ok_ret ?_
    have hk : k = k' := by simpa using hk
    subst hk
    simp [binOpA, quietFlat, binOp, Op.intBits, quiet, pure, flat, bitsI]
  case or =>
    refine rest _ _ fun hk => ok_ret ?_
    have hk : k = k' := by simpa using hk
    subst hk
    simp [binOpA, quietFlat, binOp, Op.intBits, quiet, pure, flat, bitsI]
  case xor =>
    refine rest _ _ fun hk => ok_ret ?_
    have hk : k = k' := by simpa using hk
    subst hk
    simp [binOpA, quietFlat, binOp, Op.intBits, quiet, pure, flat, bitsI]
  case andNot =>
    refine rest _ _ fun hk => ok_ret ?_
    have hk : k = k' := by simpa using hk
    subst hk
    simp [binOpA, quietFlat, binOp, Op.intBits, quiet, pure, flat, bitsI]
  case add =>
    refine rest _ _ fun hk => ok_mono wrapO_ok fun v hv => ?_
    simp only [binOpA, hk, binInt, hv]
  case sub =>
    refine rest _ _ fun hk => ok_mono wrapO_ok fun v hv => ?_
    simp only [binOpA, hk, binInt, hv]
  case mul =>
    refine rest _ _ fun hk => ok_mono wrapO_ok fun v hv => ?_
    simp only [binOpA, hk, binInt, hv]
  all_goals
    refine rest _ _ fun hk => ok_mono ok_lift fun v hv => ?_
    simp only [binOpA, hk]
    exact hv

theorem strO_ok {op : BinOp} {t : TypeId} {a b : ByteArray} {x y : Operand} (h : op = .add ∨ op = .eql ∨ op = .neq) : (strO op a b).Ok fun v => binOpA (Cx.of P) op t (.string a) (.string b) x y = some v := by
  rcases h with rfl | rfl | rfl
  · refine ok_want (ok_ret fun h => ?_)
    have h : a.size + b.size ≤ 9223372036854775807 := by simpa using h
    have h3 : IntKind.i64.max = 9223372036854775807 := by decide
    have h2 : ¬ IntKind.i64.max < ((a.size + b.size : Nat) : Int) := by rw [h3]; omega
    simp only [binOpA, flat, Bool.and_self, quietFlat, eqGuard, binOp, Op.stringOp, bind, Sem.bind]
    rw [if_neg (show ¬ ((a.size + b.size : Nat) : Int) > IntKind.i64.max from h2)]
    simp only [quiet, pure]
    rfl
  · simp only [strO]
    refine ok_mono ok_lift fun v hv => ?_
    simp only [notB, Option.some.injEq] at hv
    subst hv
    simp [binOpA, flat, quietFlat, eqGuard, binOp, Op.stringOp, quiet, pure, bind, Sem.bind, eqS_eq]
  · simp only [strO]
    refine ok_mono ok_lift fun v hv => ?_
    simp only [notB, Option.some.injEq] at hv
    subst hv
    simp [binOpA, flat, quietFlat, eqGuard, binOp, Op.stringOp, quiet, pure, bind, Sem.bind, eqS_eq]

end
end Go.Ai

/-! Operations that neither read nor change memory, with values that are not known. -/
namespace Go.Ai
open Go
section
variable {P : Program}

theorem quiet_bind {α β : Type} (x : Sem α) (f : α → Sem β) : quiet P (x >>= f) = match quiet P x with | some a => quiet P (f a) | none => none := by
  show quiet P (x.bind f) = _
  induction x with
  | pure a => rfl
  | program k ih => simp only [Sem.bind, quiet]; exact ih P
  | mark m k ih => simp only [Sem.bind, quiet]; exact ih
  | _ => simp [Sem.bind, quiet]
theorem quiet_pure {α : Type} (a : α) : quiet P (pure a : Sem α) = some a := rfl
theorem quiet_under {t : TypeId} {d : TypeDesc} (h : (Cx.of P).desc t = some d) : quiet P (underlying t) = some d := by
  have := Cx.desc_under h
  simp [underlying, program, this, quiet_bind, quiet, bind, Sem.bind, pure]
theorem quiet_info {t : TypeId} {i : TypeInfo} (h : (Cx.of P).ty.get t = some i) : quiet P (typeInfo t) = some i := by
  have := Cx.info h
  simp [typeInfo, program, this, quiet, bind, Sem.bind, pure]
theorem quiet_size {t : TypeId} {n : Nat} (h : (Cx.of P).size t = some n) : quiet P (sizeOf t) = some n := by
  obtain ⟨i, hi, rfl⟩ := size_info h
  simp only [sizeOf, quiet_bind, quiet_info hi]
  rfl


theorem beq_eqS (a b : ByteArray) : (a == b) = eqS a b := by
  have h : (a == b) = (a.data == b.data) := by cases a; cases b; rfl
  rw [h, Bool.eq_iff_iff]
  unfold eqS
  rw [decide_eq_true_iff, beq_iff_eq, Array.toList_inj]

theorem eqLeaf_ok {t : TypeId} {a b : Value} {c : Bool} (h : eqLeaf (Cx.of P) t a b = some c) : (∀ d, quiet P (Op.equalIn (d + 1) t a b) = some c) ∧ (∀ (cs : Array Value) (i : Nat) (v : Value), cs[i]? = some v → quiet P (part t cs i) = some v) := by
  unfold eqLeaf at h
  split at h <;> (try (cases h; done)) <;> rename_i hd <;> split at h <;> (try (cases h; done))
  · split at h <;> (try (cases h; done))
    rename_i hk
    simp only [Option.some.injEq] at h; subst h
    refine ⟨fun d => ?_, fun cs i v hv => by simp [part, isAgg, quiet_bind, quiet_under hd, quiet_pure, hv]⟩
    rw [Op.equalIn, quiet_bind, quiet_under hd]
    simp only [decide_eq_true_eq] at hk
    simp [hk, quiet_pure]
  · simp only [Option.some.injEq] at h; subst h
    refine ⟨fun d => ?_, fun cs i v hv => by simp [part, isAgg, quiet_bind, quiet_under hd, quiet_pure, hv]⟩
    rw [Op.equalIn, quiet_bind, quiet_under hd]
    simp [quiet_pure]
  · simp only [Option.some.injEq] at h; subst h
    refine ⟨fun d => ?_, fun cs i v hv => by simp [part, isAgg, quiet_bind, quiet_under hd, quiet_pure, hv]⟩
    rw [Op.equalIn, quiet_bind, quiet_under hd]
    simp [quiet_pure, beq_eqS]

theorem eqFs_ok {d : Nat} {xs ys : Array Value} : ∀ (l : List Field) (i : Nat) (us vs : List Value) (c : Bool), eqFs (Cx.of P) l i us vs = some c → (∀ j, us[j]? = xs[i + j]?) → (∀ j, vs[j]? = ys[i + j]?) →
    quiet P (forIn l ((none : Option Bool), ()) fun f __s =>
                if f.name ≠ "_" then do
                  let __do_lift ← part f.type xs f.offset
                  let __do_lift_1 ← part f.type ys f.offset
                  let __do_lift ← Op.equalIn (d + 1) f.type __do_lift __do_lift_1
                  if (!__do_lift) = true then pure (ForInStep.done (some false, ()))
                    else pure (ForInStep.yield (none, ()))
                else pure (ForInStep.yield (none, ()))) = some (if c = true then (none, ()) else (some false, ())) := by
  intro l
  induction l with
  | nil =>
    intro i us vs c h hx hy
    cases us <;> cases vs <;> simp [eqFs] at h
    subst h
    simp [quiet_pure]
  | cons f l ih =>
    intro i us vs c h hx hy
    cases us with
    | nil => cases vs <;> simp [eqFs] at h
    | cons a us =>
      cases vs with
      | nil => simp [eqFs] at h
      | cons b vs =>
        simp only [eqFs] at h
        split at h <;> (try (cases h; done))
        rename_i hg
        simp only [Bool.and_eq_true, Bool.not_eq_true', decide_eq_false_iff_not] at hg
        have ho : f.offset = i := Nat.eq_of_beq_eq_true hg.1
        split at h <;> (try (cases h; done))
        rename_i c1 hc1
        split at h <;> (try (cases h; done))
        rename_i c2 hc2
        simp only [Option.some.injEq] at h
        obtain ⟨h1, h2⟩ := eqLeaf_ok hc1
        have e1 := h2 xs i a (by have := hx 0; simpa using this.symm)
        have e2 := h2 ys i b (by have := hy 0; simpa using this.symm)
        have := ih (i + 1) us vs c2 hc2 (fun j => by have := hx (j + 1); simpa [Nat.add_assoc, Nat.add_comm 1] using this) (fun j => by have := hy (j + 1); simpa [Nat.add_assoc, Nat.add_comm 1] using this)
        rw [List.forIn_cons, quiet_bind]
        simp only [ne_eq, hg.2, not_false_eq_true, if_true, quiet_bind, ho, e1, e2, h1]
        cases c1 with
        | false => subst h; simp [quiet_pure]
        | true =>
          simp only [Bool.true_and] at h; subst h
          simp only [Bool.not_true, Bool.false_eq_true, if_false, quiet_pure]
          exact this

theorem eqAgg_ok {d : Nat} {t : TypeId} {xs ys : Array Value} {c : Bool} (h : eqAgg (Cx.of P) t xs.toList ys.toList = some c) : quiet P (Op.equalIn (d + 2) t (.agg xs) (.agg ys)) = some c ∧ P.eqGuardType P.depth t = false := by
  unfold eqAgg at h
  split at h <;> (try (cases h; done))
  rename_i fs hd
  split at h <;> (try (cases h; done))
  rename_i hg
  simp only [Bool.and_eq_true, Bool.not_eq_true'] at hg
  have hg1 : P.stoodInHeld t = false := hg.1
  refine ⟨?_, hg.2⟩
  rw [Op.equalIn, quiet_bind, quiet_under hd]
  simp only [quiet_bind]
  have hp : quiet P program = some P := rfl
  rw [hp]
  simp only [hg1, Bool.false_eq_true, if_false, quiet_bind]
  rw [← Array.forIn_toList]
  rw [eqFs_ok _ 0 _ _ _ h (fun j => by simp) (fun j => by simp)]
  cases c <;> simp [quiet_pure]

theorem notB_flat {op : BinOp} {c : Bool} {v : Value} (h : notB op c = some v) : flat v = true := by
  cases op <;> simp [notB] at h <;> subst h <;> rfl

theorem binO_agg {op : BinOp} {t : TypeId} {xs ys : Array Value} {x y : Operand} {c : Bool} {v : Value} (h : eqAgg (Cx.of P) t xs.toList ys.toList = some c) (hv : notB op c = some v) (hf : flatA xs = true ∧ flatA ys = true) :
    binOpA (Cx.of P) op t (.agg xs) (.agg ys) x y = some v := by
  obtain ⟨h1, h2⟩ := eqAgg_ok (d := 9998) h
  have hp : quiet P program = some P := rfl
  have he : quiet P (Op.equal t (.agg xs) (.agg ys)) = some c := h1
  simp only [binOpA, flat, hf.1, hf.2, Bool.and_self, quietFlat, Cx.of]
  have hg : ∀ op, quiet P (eqGuard op t x y (.agg xs) (.agg ys)) = some () := by
    intro op
    cases op <;> simp [eqGuard, quiet_bind, quiet_pure, hp, h2]
  rw [quiet_bind, hg]
  cases op <;> simp only [notB] at hv <;> (try (cases hv; done))
  · simp only [Option.some.injEq] at hv; subst hv
    simp only [binOp, quiet_bind, he, quiet_pure]
    rfl
  · simp only [Option.some.injEq] at hv; subst hv
    simp only [binOp, quiet_bind, he, quiet_pure]
    rfl

end
end Go.Ai

/-! Operations that neither read nor change memory, with values that are not known: all of them. -/
namespace Go.Ai
open Go
section
variable {P : Program}

theorem eqLeaf_flat {cx : Cx} {t : TypeId} {a b : Value} {c : Bool} (h : eqLeaf cx t a b = some c) : flat a = true ∧ flat b = true := by
  unfold eqLeaf at h
  split at h <;> (try (cases h; done)) <;> split at h <;> (try (cases h; done)) <;> exact ⟨rfl, rfl⟩
theorem eqFs_flat {cx : Cx} : ∀ (l : List Field) (i : Nat) (us vs : List Value) (c : Bool), eqFs cx l i us vs = some c → flatL us = true ∧ flatL vs = true := by
  intro l
  induction l with
  | nil => intro i us vs c h; cases us <;> cases vs <;> simp [eqFs] at h; exact ⟨rfl, rfl⟩
  | cons f l ih =>
    intro i us vs c h
    cases us with
    | nil => cases vs <;> simp [eqFs] at h
    | cons a us =>
      cases vs with
      | nil => simp [eqFs] at h
      | cons b vs =>
        simp only [eqFs] at h
        split at h <;> (try (cases h; done))
        split at h <;> (try (cases h; done))
        rename_i hc1
        split at h <;> (try (cases h; done))
        rename_i hc2
        obtain ⟨h1, h2⟩ := eqLeaf_flat hc1
        obtain ⟨h3, h4⟩ := ih _ _ _ _ hc2
        simp [flatL, h1, h2, h3, h4]

theorem binO_ok {op : BinOp} {t : TypeId} {a b : Value} {x y : Operand} : (binO (Cx.of P) op t a b x y).Ok fun v => (match binOpA (Cx.of P) op t a b x y with | some v => some v | none => eqNilA (Cx.of P) op t a b) = some v := by
  have fin : ∀ {v}, binOpA (Cx.of P) op t a b x y = some v → (match binOpA (Cx.of P) op t a b x y with | some v => some v | none => eqNilA (Cx.of P) op t a b) = some v := fun h => by rw [h]
  unfold binO
  split
  · split
    · exact ok_mono intO_ok fun v hv => fin hv
    · exact ok_no
  · split
    · split
      · exact ok_mono (strO_ok (.inl rfl)) fun v hv => fin hv
      · exact ok_mono (strO_ok (.inr (.inl rfl))) fun v hv => fin hv
      · exact ok_mono (strO_ok (.inr (.inr rfl))) fun v hv => fin hv
      · exact ok_mono ok_lift fun v hv => fin hv
    · exact ok_no
  · rename_i xs
    split
    · rename_i ys
      split
      · rename_i c hc
        refine ok_mono ok_lift fun v hv => fin ?_
        have : flatA xs = true ∧ flatA ys = true := by
          unfold eqAgg at hc
          split at hc <;> (try (cases hc; done))
          split at hc <;> (try (cases hc; done))
          obtain ⟨xs⟩ := xs
          obtain ⟨ys⟩ := ys
          exact eqFs_flat _ _ _ _ _ hc
        exact binO_agg hc hv this
      · exact ok_mono ok_lift fun v hv => fin hv
    · exact ok_no
  · exact ok_lift

theorem boundO_ok {v : Value} {y : Nat} : (boundO v y).Ok fun n => bound v y = some n := by
  unfold boundO
  split
  · refine ok_bind ok_conc fun i => ok_want (ok_ret fun h hi => ?_)
    subst hi
    simp only [bound, h]
  · exact ok_no
theorem boundOrO_ok {d y : Nat} {v : Option Value} : (boundOrO d y v).Ok fun n => boundOr d y v = some n := by
  cases v with
  | none => exact ok_ret rfl
  | some v => exact boundO_ok

theorem indexO_ok {t : TypeId} {x i : Value} : (indexO (Cx.of P) t x i).Ok fun v => indexA (Cx.of P) t x i = some v := by
  unfold indexO
  split
  · rename_i s
    split
    · rename_i k
      split
      · rename_i hd
        refine ok_want (ok_ret fun h => ?_)
        simp only [decide_eq_true_eq] at h
        have hlt : k.toNat < s.data.toList.length := by
          have : s.data.toList.length = s.size := rfl
          omega
        simp only [indexA, hd, h.1, decide_true, byteAt, List.getElem?_eq_getElem hlt]
      · exact ok_no
    · exact ok_no
  · exact ok_lift

theorem indexAddrO_ok {t : TypeId} {x i : Value} : (indexAddrO (Cx.of P) t x i).Ok fun v => indexAddrA (Cx.of P) t x i = some v := by
  unfold indexAddrO
  split
  · split
    · split
      · split
        · split
          · rename_i a _ m e hd _ n hn _ hs
            refine ok_bind ok_conc fun k => ok_want (ok_ret fun h hk => ?_)
            subst hk
            simp only [indexAddrA, hd, hn, h, addr_add hs]
          · exact ok_no
        · exact ok_no
      · exact ok_no
    · split
      · split
        · split
          · rename_i a len _ _ e hd _ n hn _ hs
            refine ok_want (ok_ret fun h => ?_)
            simp only [indexAddrA, hd, hn, h, addr_add hs, hs, Option.isNone_none, Bool.and_self]
          · exact ok_no
        · exact ok_no
      · exact ok_no
    · exact ok_no
  · exact ok_no

theorem sliceStrO_ok {t : TypeId} {x : Value} {lo hi : Option Value} : (sliceStrO (Cx.of P) t x lo hi).Ok fun v => sliceP (Cx.of P) t x lo hi = some v := by
  unfold sliceStrO
  split
  · split
    · rename_i s hd
      refine ok_bind boundOrO_ok fun h => ok_bind boundOrO_ok fun l => ok_ret fun h2 h1 => ?_
      simp only [sliceP, hd, h1, h2]
    · exact ok_no
  · rename_i a
    split
    · rename_i m e hd
      split
      · rename_i n hn
        split
        · rename_i hb
          have hs : a.spot = none := by
            simp only [Bool.and_eq_true] at hb
            cases hsp : a.spot with
            | none => rfl
            | some d => rw [hsp] at hb; cases hb.1
          refine ok_bind boundOrO_ok fun h => ok_bind boundOrO_ok fun l => ok_bind ok_ask fun q => ?_
          cases q with
          | true => exact ok_ret fun hq h2 h1 => by simp only [sliceP, hd, hn, hb, h1, h2, ← hq]
          | false => exact ok_ret fun hq h2 h1 => by simp only [sliceP, hd, hn, hb, h1, h2, ← hq, addr_add hs]
        · exact ok_no
      · exact ok_no
    · exact ok_no
  · exact ok_lift

theorem pureO_ok {tm : T Value} {op : Op} : (pureO (Cx.of P) tm op).Ok fun v => pureOp (Cx.of P) tm op = some v := by
  unfold pureO
  split
  · split
    · rename_i c a b d hc
      refine ok_bind ok_ask fun e => ?_
      cases e with
      | true => exact ok_mono ok_lift fun v hv h => by subst h; simp only [pureOp, hc, hv]
      | false => exact ok_mono ok_lift fun v hv h => by subst h; simp only [pureOp, hc, hv]
    · exact ok_no
  · split
    · split
      · rename_i h1 _ _ h2
        exact ok_mono binO_ok fun v hv => by simp only [pureOp, h1, h2]; exact hv
      · exact ok_no
    · exact ok_no
  · split
    · split
      · rename_i h1 _ _ h2
        exact ok_mono indexO_ok fun v hv => by simp only [pureOp, h1, h2]; exact hv
      · exact ok_no
    · exact ok_no
  · split
    · split
      · rename_i h1 _ _ h2
        exact ok_mono indexAddrO_ok fun v hv => by simp only [pureOp, h1, h2]; exact hv
      · exact ok_no
    · exact ok_no
  · split
    · exact ok_no
    · split
      · split
        · split
          · rename_i h1 _ _ h2 _ _ h3
            exact ok_mono sliceStrO_ok fun v hv => by simp only [pureOp, h1, h2, h3]; exact hv
          · exact ok_no
        · exact ok_no
      · exact ok_no
  · split
    · rename_i k n hx
      split
      · rename_i k' k2 h1 h2
        exact ok_mono wrapO_ok fun v hv => by simp only [pureOp, hx, h1, h2, hv]
      · exact ok_lift
    · exact ok_lift
  · exact ok_lift

end
end Go.Ai

/-! Operations that read memory, where it is not known. -/
namespace Go.Ai
open Go
section
variable {P : Program}

theorem cellO_ok {cx : Cx} {t : TypeId} {cs : List Value} {i : Nat} {v : Value} {p : Prop} (h : cellO cx t cs i = some (v, p)) : (p → cs[i]? = some v ∧ isCell v = true) ∧ ((∃ k, cx.desc t = some (.int k)) ∨ cx.desc t = some .bool ∨ cx.desc t = some .string) := by
  unfold cellO at h
  split at h <;> (try (cases h; done)) <;> rename_i hd <;> simp only [Option.some.injEq, Prod.mk.injEq] at h <;> obtain ⟨rfl, rfl⟩ := h
  · exact ⟨fun hp => ⟨hp, rfl⟩, .inl ⟨_, hd⟩⟩
  · exact ⟨fun hp => ⟨hp, rfl⟩, .inr (.inl hd)⟩
  · exact ⟨fun hp => ⟨hp, rfl⟩, .inr (.inr hd)⟩

theorem sub_cons {cs : List Value} {i n : Nat} {v : Value} (h : cs[i]? = some v) : sub cs i (n + 1) = v :: sub cs (i + 1) n := by
  obtain ⟨hlt, hv⟩ := List.getElem?_eq_some_iff.1 h
  unfold sub
  rw [List.drop_eq_getElem_cons hlt, List.take_succ_cons, hv]

theorem fieldsO_ok {cx : Cx} {cs : List Value} {off : Nat} : ∀ (l : List Field) (i : Nat), (fieldsO cx cs off l i).Ok fun vs => sub cs (off + i) l.length = vs ∧ AllC vs ∧ (l ≠ [] → off + i + l.length ≤ cs.length) := by
  intro l
  induction l with
  | nil => intro i; exact ok_ret ⟨by simp [sub], fun v hv => by simp at hv, fun h => absurd rfl h⟩
  | cons f l ih =>
    intro i
    simp only [fieldsO]
    split
    · rename_i v p _ hc
      obtain ⟨h1, _⟩ := cellO_ok hc
      refine ok_need (ok_bind (ih (i + 1)) fun vs => ok_ret fun h hp => ?_)
      obtain ⟨h2, h3, h4⟩ := h
      obtain ⟨h5, h6⟩ := h1 hp
      obtain ⟨hlt, _⟩ := List.getElem?_eq_some_iff.1 h5
      refine ⟨?_, ?_, fun _ => ?_⟩
      · rw [List.length_cons, sub_cons h5]
        rw [show off + i + 1 = off + (i + 1) from by omega, h2]
      · intro u hu
        rcases List.mem_cons.1 hu with rfl | hu
        · exact h6
        · exact h3 u hu
      · rw [List.length_cons]
        cases l with
        | nil => simp; omega
        | cons g l => have := h4 (by simp); omega
    · exact ok_no

theorem loadO_ok {tm : T Value} {st : St} {t : TypeId} {x : Operand} : (loadO (Cx.of P) tm st t x).Ok fun v => readOp (Cx.of P) tm st (.load t x) = some v := by
  unfold loadO
  split
  · rename_i a hx
    split
    · rename_i e cs o wr hg
      refine ok_bind ok_seen fun s => ?_
      cases s with
      | true => exact ok_mono ok_lift fun v hv _ => hv
      | false =>
        simp only
        split
        · exact ok_no
        · rename_i hs
          split
          · rename_i fs n hd hn
            split
            · rename_i hb
              simp only [Bool.and_eq_true] at hb
              have hsz : fs.size = n := Nat.eq_of_beq_eq_true hb.1
              have hpos : 0 < n := Nat.le_of_ble_eq_true hb.2
              refine ok_bind (fieldsO_ok _ _) fun vs => ok_ret fun h _ => ?_
              obtain ⟨h1, h2, h3⟩ := h
              have hlen : fs.toList.length = n := by simpa using hsz
              rw [hlen, Nat.add_zero] at h1
              rw [hlen, Nat.add_zero] at h3
              have hne : fs.toList ≠ [] := by intro e0; rw [e0] at hlen; simp at hlen; omega
              have hr := readCells_some (n := n) hs hg (h3 hne) (by rw [h1]; exact h2)
              rw [h1] at hr
              have hagg : (Cx.of P).isAgg t = some true := by simp [Cx.isAgg, hd]
              simp only [readOp, hx, hagg, hn, hr]
            · exact ok_no
          · rename_i d n _ hd hn
            split
            · rename_i v p hc
              obtain ⟨h1, h2⟩ := cellO_ok hc
              refine ok_need (ok_ret fun hp _ => ?_)
              obtain ⟨h3, h4⟩ := h1 hp
              have hr := readCells_one hs hg h3 h4
              have hagg : (Cx.of P).isAgg t = some false := by
                rcases h2 with ⟨k, h2⟩ | h2 | h2 <;> simp [Cx.isAgg, h2]
              simp only [readOp, hx, hagg, hn, hr]
            · exact ok_no
          · exact ok_no
    · exact ok_no
  · exact ok_no

theorem explO_ok {cx : Cx} {e : TypeId} {cs : List Value} : ∀ (n i : Nat), (explO cx e cs n i).Ok fun vs => sub cs i n = vs ∧ AllC vs ∧ (n ≠ 0 → i + n ≤ cs.length) := by
  intro n
  induction n with
  | zero => intro i; exact ok_ret ⟨by simp [sub], fun v hv => by simp at hv, fun h => absurd rfl h⟩
  | succ n ih =>
    intro i
    simp only [explO]
    split
    · rename_i v p hc
      obtain ⟨h1, _⟩ := cellO_ok hc
      refine ok_need (ok_bind (ih (i + 1)) fun vs => ok_ret fun h hp => ?_)
      obtain ⟨h2, h3, h4⟩ := h
      obtain ⟨h5, h6⟩ := h1 hp
      obtain ⟨hlt, _⟩ := List.getElem?_eq_some_iff.1 h5
      refine ⟨?_, ?_, fun _ => ?_⟩
      · rw [sub_cons h5, h2]
      · intro u hu
        rcases List.mem_cons.1 hu with rfl | hu
        · exact h6
        · exact h3 u hu
      · by_cases h0 : n = 0
        · omega
        · have := h4 h0; omega
    · exact ok_no
theorem partO_ok {cx : Cx} {st : St} {a : Addr} {n : Nat} : (partO cx st a n).Ok fun l => readCells st a n = some l := by
  unfold partO
  split
  · rename_i e cs o wr hg
    refine ok_bind ok_seen3 fun s => ?_
    obtain ⟨s1, s2⟩ := s
    cases s1 with
    | true => exact ok_mono ok_lift fun v hv _ => hv
    | false =>
      simp only
      split
      · refine ok_want (ok_ret fun hn _ => ?_)
        have hn := Nat.eq_of_beq_eq_true hn
        subst hn
        rfl
      · rename_i hs
        cases s2 with
        | some k =>
          simp only
          refine ok_want (ok_mono (explO_ok k a.off) fun l hl hk _ => ?_)
          have hk := Nat.eq_of_beq_eq_true hk
          subst hk
          obtain ⟨h1, h2, h3⟩ := hl
          by_cases h0 : n = 0
          · subst h0
            simp [sub] at h1; subst h1
            rfl
          · rw [← h1]
            exact readCells_some hs hg (h3 h0) (by rw [h1]; exact h2)
        | none =>
          simp only
          refine ok_bind ok_ask fun w => ?_
          cases w with
          | true =>
            refine ok_need (ok_ret fun hp h _ => ?_)
            have h := h.symm
            simp only [Bool.and_eq_true] at h
            have h1 : a.off = 0 := Nat.eq_of_beq_eq_true h.1
            have h2 : n = cs.length := Nat.eq_of_beq_eq_true h.2
            have hsub : sub cs a.off n = cs := by unfold sub; rw [h1, h2]; simp
            rw [readCells_some hs hg (by omega) (by rw [hsub]; exact hp), hsub]
          | false =>
            refine ok_want (ok_need (ok_ret fun hp h _ _ => ?_))
            exact readCells_some hs hg (Nat.le_of_ble_eq_true h) hp
  · exact ok_no

theorem convBO_ok {tm : T Value} {st : St} {s d : TypeId} {x : Operand} : (convBO (Cx.of P) tm st s d x).Ok fun v => readOp (Cx.of P) tm st (.convert s d x) = some v := by
  unfold convBO
  split
  · rename_i a n c hx
    split
    · rename_i e hs1 hd1
      split
      · rename_i he
        split
        · rename_i e2 cs o wr hg
          refine ok_bind ok_seen fun sn => ?_
          cases sn with
          | true =>
            refine ok_bind ok_lift fun l => ok_mono ok_lift fun v hv hl _ => ?_
            split at hv <;> (try (cases hv; done))
            rename_i bs hbs
            simp only [Option.some.injEq] at hv; subst hv
            simp only [readOp, hs1, hd1, he, hx, hl, hbs]
          | false =>
            simp only
            split
            · exact ok_no
            · rename_i hs
              refine ok_want (ok_need (ok_ret fun hp h _ => ?_))
              have hr := readCells_some hs hg (Nat.le_of_ble_eq_true h) hp.cells
              have hb := bytesOf_some _ hp
              simp only [readOp, hs1, hd1, he, hx, hr, hb]
              rfl
        · exact ok_no
      · exact ok_no
    · exact ok_lift
  · exact ok_lift

theorem sliceRO_ok {st : St} {t : TypeId} {x : Value} {lo hi : Option Value} : (sliceRO (Cx.of P) st t x lo hi).Ok fun v => sliceR (Cx.of P) st t x lo hi = some v := by
  unfold sliceRO
  split
  · rename_i a len cap
    split
    · rename_i e hd
      split
      · rename_i n hn
        split
        · refine ok_bind boundOrO_ok fun h => ok_bind boundOrO_ok fun l => ok_ret fun h2 h1 => ?_
          simp only [sliceR, hd, hn, h1, h2]
        · rename_i _ a
          refine ok_bind ok_ask fun c => ?_
          cases c with
          | false =>
            simp only
            split
            · exact ok_no
            · rename_i hs
              refine ok_bind boundOrO_ok fun h => ok_bind boundOrO_ok fun l => ok_bind ok_ask fun q => ?_
              cases q with
              | true =>
                refine ok_ret fun hq h2 h1 hc => ?_
                simp only [sliceR, hd, hn, hs, ← hc, ← hq, h1, h2]
              | false =>
                refine ok_ret fun hq h2 h1 hc => ?_
                simp only [sliceR, hd, hn, hs, ← hc, ← hq, h1, h2, addr_add hs]
          | true =>
            simp only
            split
            · rename_i e2 cs wr hg
              split
              · rename_i m hm
                split
                · rename_i hb
                  simp only [Bool.and_eq_true] at hb
                  refine ok_want (ok_want (ok_want (ok_bind boundOrO_ok fun h => ok_bind boundOrO_ok fun l => ok_bind ok_ask fun q => ?_)))
                  have ho : ∀ (b1 : Nat.ble cap openCap = true) (b2 : Nat.ble (a.off + len * n) cs.length = true) (b3 : Nat.beq a.off ((openCap - cap) * n) = true), openOk (Cx.of P) st a len cap n = true := by
                    intro b1 b2 b3
                    simp only [openOk, hg, hm, hb.1.1, hb.1.2, hb.2, b1, b2, b3, Bool.and_self]
                  have hs : a.spot = none := by
                    have := hb.1.1
                    cases hsp : a.spot with
                    | none => rfl
                    | some d => rw [hsp] at this; cases this
                  cases q with
                  | true =>
                    refine ok_ret fun hq h2 h1 b1 b2 b3 hc => ?_
                    simp only [sliceR, hd, hn, ← hc, ho b1 b2 b3, ← hq, h1, h2, addr_add hs]
                  | false =>
                    refine ok_ret fun hq h2 h1 b1 b2 b3 hc => ?_
                    simp only [sliceR, hd, hn, ← hc, ho b1 b2 b3, ← hq, h1, h2]
                · exact ok_no
              · exact ok_no
            · exact ok_no
      · exact ok_no
    · exact ok_no
  · exact ok_no

theorem readO_ok {tm : T Value} {st : St} {op : Op} : (readO (Cx.of P) tm st op).Ok fun v => readOp (Cx.of P) tm st op = some v := by
  unfold readO
  split
  · exact loadO_ok
  · exact convBO_ok
  · split
    · exact ok_lift
    · split
      · split
        · split
          · rename_i h1 _ _ h2 _ _ h3
            exact ok_mono sliceRO_ok fun v hv => by simp only [readOp, h1, h2, h3]; exact hv
          · exact ok_no
        · exact ok_no
      · exact ok_no
  · exact ok_lift

end
end Go.Ai

/-! Operations that change memory, where it is not known. -/
namespace Go.Ai
open Go
section
variable {P : Program}

theorem spot_none {a : Addr} (h : a.spot.isNone = true) : a.spot = none := by
  cases hs : a.spot with
  | none => rfl
  | some d => rw [hs] at h; cases h

theorem writeO_ok {st : St} {a : Addr} {vs : List Value} : (writeO st a vs).Ok fun st' => writeCells st a vs = some st' := by
  unfold writeO
  split
  · rename_i e cs o wr hg
    refine ok_bind ok_seen fun s => ?_
    cases s with
    | true => exact ok_mono ok_lift fun v hv _ => hv
    | false =>
      simp only
      split
      · rename_i hw
        simp only [Bool.and_eq_true] at hw
        obtain ⟨hw, hs⟩ := hw
        subst hw
        refine ok_want (ok_need (ok_ret fun hp h _ => ?_))
        have hle := Nat.le_of_ble_eq_true h
        simp only [writeCells, hg, hs, allCells_some _ hp, Bool.and_self, putCells_some _ _ _ hle]
      · exact ok_no
  · exact ok_no

theorem storeO_ok {tm : T Value} {st : St} {t : TypeId} {x y : Operand} : (storeO (Cx.of P) tm st t x y).Ok fun q => heavyOp (Cx.of P) tm st (.store t x y) = some q := by
  unfold storeO
  split
  · rename_i a hx
    split
    · rename_i v hy
      split
      · rename_i n hn
        split
        · rename_i hb
          refine ok_bind writeO_ok fun st' => ok_ret fun h => ?_
          simp only [heavyOp, hx, hy, hn, hb, h]
        · exact ok_no
      · exact ok_no
    · exact ok_no
  · exact ok_no

theorem contentO_ok {cx : Cx} {st : St} {zl : List Value} {size : Nat} {xd : TypeDesc} {x : Value} : (contentO cx st zl size xd x).Ok fun q => contentZ st zl size xd x = some q := by
  unfold contentO
  split
  · split
    · split
      · refine ok_bind ok_ask fun z => ?_
        cases z with
        | true => exact ok_ret fun h => by simp only [contentZ, contentA, ← h]
        | false => exact ok_no
      · refine ok_bind partO_ok fun l => ok_ret fun h => ?_
        simp only [contentZ, contentA, h]
    · exact ok_no
  · exact ok_lift

theorem growO_ok {e : TypeId} {old l : List Value} {nd : Nat} {hp : T AObj} {ct : Nat} : (growO e old l nd hp ct).Ok fun q => growA e old l nd hp ct = some q := by
  unfold growO
  refine ok_need (ok_ret fun h => ?_)
  simp only [growA, allCells_some _ h]

theorem appendToO_ok {e : TypeId} {i : TypeInfo} {s : Value} {n : Nat} {l : List Value} {st : St} : (appendToO (Cx.of P) e i s n l st).Ok fun q => appendTo (Cx.of P) e i s n l st = some q := by
  unfold appendToO
  split
  · rename_i base len cap
    split
    · refine ok_want (ok_bind ok_ask fun z => ?_)
      cases z with
      | true =>
        refine ok_ret fun hz h => ?_
        have hn : n = 0 := Nat.eq_of_beq_eq_true hz.symm
        subst hn
        simp only [appendTo, h]
      | false =>
        refine ok_mono growO_ok fun q hq hz h => ?_
        cases n with
        | zero => simp at hz
        | succ n => simp only [appendTo, h]; exact hq
    · rename_i _ a
      refine ok_bind ok_ask fun c => ?_
      cases c with
      | false =>
        simp only
        split
        · exact ok_no
        · rename_i hs
          refine ok_bind ok_ask fun f => ?_
          cases f with
          | true =>
            refine ok_bind writeO_ok fun st' => ok_ret fun h hf hc => ?_
            simp only [appendTo, ← hc, hs, ← hf, addr_add hs, h]
          | false =>
            refine ok_bind partO_ok fun old => ok_mono growO_ok fun q hq ho hf hc => ?_
            simp only [appendTo, ← hc, hs, ← hf, ho]; exact hq
      | true =>
        simp only
        split
        · rename_i e2 cs wr hg
          split
          · rename_i m hm
            split
            · rename_i hb
              simp only [Bool.and_eq_true] at hb
              obtain ⟨⟨⟨hb1, hb2⟩, hb3⟩, hb4⟩ := hb
              subst hb4
              have hs := spot_none hb1
              have ho : ∀ (b1 : Nat.ble cap openCap = true) (b2 : Nat.ble (a.off + len * i.size) cs.length = true) (b3 : Nat.beq a.off ((openCap - cap) * i.size) = true), openOk (Cx.of P) st a len cap i.size = true := by
                intro b1 b2 b3
                simp only [openOk, hg, hm, hb1, hb2, hb3, b1, b2, b3, Bool.and_self]
              refine ok_want (ok_want (ok_want (ok_bind ok_ask fun z => ?_)))
              cases z with
              | true =>
                refine ok_ret fun hz b1 b2 b3 hc => ?_
                have hn : n = 0 := Nat.eq_of_beq_eq_true hz.symm
                subst hn
                simp only [appendTo, ← hc, ho b1 b2 b3, Bool.or_true]
              | false =>
                simp only
                refine ok_bind ok_ask fun f => ?_
                cases f with
                | true =>
                  refine ok_bind writeO_ok fun st' => ok_ret fun h hf hz b1 b2 b3 hc => ?_
                  cases n with
                  | zero => simp at hz
                  | succ n => simp only [appendTo, ← hc, ho b1 b2 b3, hg, ← hf, addr_add hs, h]
                | false =>
                  simp only
                  split
                  · rename_i he
                    refine ok_bind partO_ok fun old => ok_mono growO_ok fun q hq hold hf hz b1 b2 b3 hc => ?_
                    cases n with
                    | zero => simp at hz
                    | succ n => simp only [appendTo, ← hc, ho b1 b2 b3, hg, ← hf, he, hold]; exact hq
                  · exact ok_no
            · exact ok_no
          · exact ok_no
        · exact ok_no
  · exact ok_no

theorem appendO_ok {ts : List TypeId} {s x : Value} {st : St} : (appendO (Cx.of P) ts s x st).Ok fun q => appendA (Cx.of P) ts s x st = some q := by
  unfold appendO
  split
  · split
    · rename_i h1 h2
      split
      · rename_i i hi
        split
        · rename_i zl hz
          refine ok_bind contentO_ok fun q => ?_
          split
          · split
            · rename_i hb
              simp only [Bool.and_eq_true] at hb
              refine ok_want (ok_mono appendToO_ok fun r hr hw hq => ?_)
              obtain ⟨n, l⟩ := q
              simp only at hr hw
              simp only [appendA, h1, h2, hi, hz, hq, hw, hb.1, hb.2, Bool.and_self]
              exact hr
            · exact ok_no
          · exact ok_no
        · exact ok_no
      · exact ok_no
    · exact ok_no
  · exact ok_no

theorem allK_get {k : IntKind} {cs : List Value} {off n : Nat} (h : AllK k (sub cs off n)) (hl : off + n ≤ cs.length) {i : Nat} (hi : i < n) : cs[off + i]? = some (.int k (intAt cs (off + i))) := by
  have hlt : off + i < cs.length := by omega
  have hm : cs[off + i] ∈ sub cs off n := by
    unfold sub
    have : ((cs.drop off).take n)[i]? = some cs[off + i] := by
      rw [List.getElem?_take, if_pos hi, List.getElem?_drop, List.getElem?_eq_getElem hlt]
    exact List.mem_of_getElem? this
  obtain ⟨z, hz⟩ := h _ hm
  unfold intAt
  rw [List.getElem?_eq_getElem hlt, hz]
theorem mixE_eq {k : IntKind} {cs : List Value} {off n : Nat} (h : AllK k (sub cs off n)) (hl : off + n ≤ cs.length) : ∀ (ds : List Value) (i : Nat) (l : List Value), mixE k cs off n ds i = some l → n ≤ i + ds.length → l = sub cs (off + i) (n - i) ++ ds.drop (n - i) ∧ (i ≤ n → AllC (sub cs (off + i) (n - i)))
  | [], i, l, hm, hn => by
    simp only [mixE, Option.some.injEq] at hm; subst hm
    simp only [List.length_nil, Nat.add_zero] at hn
    rw [show n - i = 0 by omega]
    exact ⟨by simp [sub], fun _ v hv => by simp [sub] at hv⟩
  | d :: ds, i, l, hm, hn => by
    simp only [mixE] at hm
    split at hm <;> (try (cases hm; done))
    rename_i k' z
    split at hm <;> (try (cases hm; done))
    rename_i hk
    have hk := of_decide_eq_true hk
    subst hk
    split at hm <;> (try (cases hm; done))
    rename_i r hr
    simp only [Option.some.injEq] at hm; subst hm
    obtain ⟨e, hc⟩ := mixE_eq h hl ds (i + 1) r hr (by simp only [List.length_cons] at hn; omega)
    by_cases hi : i < n
    · have hb : Nat.blt i n = true := Nat.ble_eq.mpr hi
      have hg := allK_get h hl hi
      rw [hb]
      have e2 : n - i = (n - (i + 1)) + 1 := by omega
      refine ⟨?_, fun _ => ?_⟩
      · rw [e2, sub_cons hg, e]
        rfl
      · rw [e2, sub_cons hg]
        intro v hv
        rcases List.mem_cons.1 hv with rfl | hv
        · rfl
        · exact hc (by omega) v hv
    · have hb : Nat.blt i n = false := by
        cases hbb : Nat.blt i n with
        | false => rfl
        | true => exact absurd (Nat.ble_eq.mp hbb) hi
      rw [hb]
      have e2 : n - (i + 1) = 0 := by omega
      rw [e2] at e
      rw [show n - i = 0 by omega]
      refine ⟨?_, fun _ v hv => by simp [sub] at hv⟩
      rw [e]
      simp [sub, pickI]
theorem copyE_ok {cx : Cx} {st : St} {a b : Addr} {n : Nat} : (copyE cx st a b n).Ok fun st' => ∃ l, readCells st b n = some l ∧ writeCells st a l = some st' := by
  unfold copyE
  split
  · rename_i e ds o e2 cs o2 w2 hga hgb
    split
    · rename_i k hd hs
      simp only [Bool.and_eq_true, Option.isNone_iff_eq_none] at hs
      obtain ⟨hs1, hs2, hs3⟩ := hs
      have hs3 := Nat.eq_of_beq_eq_true hs3
      refine ok_want (ok_want (ok_need (ok_bind ok_lift fun l => ok_ret fun hm hk hl hn => ?_)))
      have hn := Nat.le_of_ble_eq_true hn
      have hl := Nat.le_of_ble_eq_true hl
      obtain ⟨e1, hc⟩ := mixE_eq hk hl ds 0 l hm (by omega)
      have hc := hc (Nat.zero_le _)
      simp only [Nat.add_zero, Nat.sub_zero] at e1 hc
      have hlen : (sub cs b.off n).length = n := by unfold sub; simp; omega
      refine ⟨sub cs b.off n, readCells_some hs2 hgb hl hc, ?_⟩
      have hall : allCells (sub cs b.off n) = true := allCells_some _ hc
      have hp : putCells a.off (sub cs b.off n) ds = some l := by
        rw [putCells_some _ _ _ (by rw [hs3, hlen]; omega), hs3, e1]
        simp [setAt, hlen]
      unfold writeCells
      rw [hga]
      simp only [hs1, Option.isNone_none, hall, Bool.and_self, hp]
    · exact ok_no
  · exact ok_no
theorem copyO_ok {dT : TypeId} {d x : Value} {st : St} : (copyO (Cx.of P) dT d x st).Ok fun q => copyA (Cx.of P) dT d x st = some q := by
  unfold copyO
  split
  · split
    · split
      · rename_i hd
        split
        · rename_i n hn
          refine ok_bind (A := fun _ => True) (by split; exact ok_peek; exact ok_ret trivial) fun w => ?_
          cases w with
          | true =>
            refine ok_bind copyE_ok fun st' => ok_ret fun h _ => ?_
            obtain ⟨l, h1, h2⟩ := h
            simp only [copyA, hd, hn, h1, h2]
          | false =>
            refine ok_bind partO_ok fun l => ok_bind writeO_ok fun st' => ok_ret fun h1 h2 _ => ?_
            simp only [copyA, hd, hn, h2, h1]
        · exact ok_no
      · exact ok_no
    · exact ok_lift
  · exact ok_lift

theorem heavyO_ok {tm : T Value} {st : St} {op : Op} : (heavyO (Cx.of P) tm st op).Ok fun q => heavyOp (Cx.of P) tm st op = some q := by
  unfold heavyO
  split
  · exact storeO_ok
  · rename_i c
    split
    · rename_i b hb
      split
      · rename_i as has
        split
        · split
          · exact ok_mono appendO_ok fun q hq => by simp only [heavyOp, heavyCall, hb, has]; exact hq
          · exact ok_no
        · split
          · rename_i hts
            exact ok_mono copyO_ok fun q hq => by simp only [heavyOp, heavyCall, hb, has, hts]; exact hq
          · exact ok_no
        · exact ok_mono ok_lift fun q hq => by simp only [heavyOp]; exact hq
      · exact ok_no
    · exact ok_no
  · exact ok_lift

end
end Go.Ai

/-! More temporaries known, no less done. -/
namespace Go.Ai
open Go

def Sub (a b : T Value) : Prop := ∀ t v, a.get t = some v → b.get t = some v
theorem Sub.refl (a : T Value) : Sub a a := fun _ _ h => h
theorem Sub.set {a b : T Value} (h : Sub a b) (d : Nat) (v : Value) : Sub (a.set d v) (b.set d v) := by
  intro t u ht
  rw [T.get_set] at ht ⊢
  split at ht
  · rename_i e; rw [if_pos e]; exact ht
  · rename_i e; rw [if_neg e]; exact h t u ht

section
variable {cx : Cx} {tm tm2 : T Value}

theorem ev_mono (hs : Sub tm tm2) {x : Operand} {v : Value} (h : ev cx tm x = some v) : ev cx tm2 x = some v := by
  cases x with
  | tmp t => exact hs t v h
  | _ => exact h
theorem evs_mono (hs : Sub tm tm2) : ∀ {l : List Operand} {vs : List Value}, evs cx tm l = some vs → evs cx tm2 l = some vs := by
  intro l
  induction l with
  | nil => intro vs h; exact h
  | cons x l ih =>
    intro vs h
    simp only [evs] at h ⊢
    split at h <;> (try (cases h; done))
    rename_i v hv
    split at h <;> (try (cases h; done))
    rename_i ws hw
    rw [ev_mono hs hv, ih hw]; exact h
theorem evParts_mono (hs : Sub tm tm2) : ∀ {l : List (Nat × Operand)} {vs : List (Nat × Value)}, evParts cx tm l = some vs → evParts cx tm2 l = some vs := by
  intro l
  induction l with
  | nil => intro vs h; exact h
  | cons x l ih =>
    intro vs h
    obtain ⟨i, x⟩ := x
    simp only [evParts] at h ⊢
    split at h <;> (try (cases h; done))
    rename_i v hv
    split at h <;> (try (cases h; done))
    rename_i ws hw
    rw [ev_mono hs hv, ih hw]; exact h
theorem opt_mono (hs : Sub tm tm2) {x : Option Operand} {v : Option Value} (h : opt cx tm x = some v) : opt cx tm2 x = some v := by
  cases x with
  | none => exact h
  | some x =>
    simp only [opt] at h ⊢
    split at h <;> (try (cases h; done))
    rename_i u hu
    rw [ev_mono hs hu]; exact h

theorem pureCall_mono (hs : Sub tm tm2) {c : Call} {v : Value} (h : pureCall cx tm c = some v) : pureCall cx tm2 c = some v := by
  unfold pureCall at h ⊢
  split at h <;> (try (cases h; done))
  rename_i b hb
  split at h <;> (try (cases h; done))
  rename_i as has
  rw [evs_mono hs has]; exact h

theorem pureOp_mono (hs : Sub tm tm2) {op : Op} {v : Value} (h : pureOp cx tm op = some v) : pureOp cx tm2 op = some v := by
  have e1 : ∀ {x : Operand} {u : Value}, ev cx tm x = some u → ev cx tm2 x = some u := fun h => ev_mono hs h
  have e2 : ∀ {x : Option Operand} {u : Option Value}, opt cx tm x = some u → opt cx tm2 x = some u := fun h => opt_mono hs h
  have one : ∀ {x : Operand} {f : Value → Option Value}, (match ev cx tm x with | some a => f a | none => none) = some v → (match ev cx tm2 x with | some a => f a | none => none) = some v := by
    intro x f h
    split at h <;> (try (cases h; done))
    rename_i u hu
    rw [e1 hu]; exact h
  cases op <;> simp only [pureOp] at h ⊢ <;> (try (cases h; done)) <;> (try (exact e1 h)) <;> (try (exact pureCall_mono hs h))
  case pick c a b =>
    split at h <;> (try (cases h; done))
    · rename_i hc; rw [e1 hc]; exact e1 h
    · rename_i hc; rw [e1 hc]; exact e1 h
  case nilCheck x =>
    split at h <;> (try (cases h; done)) <;> (rename_i hx; rw [e1 hx]; exact h)
  case binOp op t x y g =>
    split at h <;> (try (cases h; done))
    rename_i hx
    split at h <;> (try (cases h; done))
    rename_i hy
    rw [e1 hx, e1 hy]; exact h
  case unOp op t x =>
    split at h <;> (try (cases h; done))
    · rename_i hx; rw [e1 hx]; exact h
    · rename_i v2 hno hx
      rw [e1 hx]
      cases v2 <;> first | exact h | exact absurd rfl (hno _)
  case convert s d x =>
    split at h <;> (try (cases h; done))
    · rename_i hx; rw [e1 hx]; exact h
    · rename_i hx; rw [e1 hx]; exact h
    · rename_i v2 hno1 hno2 hx
      rw [e1 hx]
      cases v2 <;> first | exact h | exact absurd rfl (hno1 _ _) | exact absurd rfl (hno2 _)
  case makeInterface t x =>
    split at h <;> (try (cases h; done))
    split at h <;> (try (cases h; done))
    rename_i hx; rw [e1 hx]; exact h
  case makeFunc fn a b =>
    split at h <;> (try (cases h; done))
    rename_i ha hb
    rw [evs_mono hs ha, evs_mono hs hb]; exact h
  case field t x f =>
    split at h <;> (try (cases h; done))
    rename_i hx; rw [e1 hx]; exact h
  case index t x i =>
    split at h <;> (try (cases h; done))
    rename_i hx
    split at h <;> (try (cases h; done))
    rename_i hy
    rw [e1 hx, e1 hy]; exact h
  case extract x i =>
    split at h <;> (try (cases h; done))
    rename_i hx; rw [e1 hx]; exact h
  case fieldAddr t x f =>
    split at h <;> (try (cases h; done))
    rename_i hx; rw [e1 hx]; exact h
  case indexAddr t x i =>
    split at h <;> (try (cases h; done))
    rename_i hx
    split at h <;> (try (cases h; done))
    rename_i hy
    rw [e1 hx, e1 hy]; exact h
  case slice t x lo hi mx =>
    split at h <;> (try (cases h; done))
    split at h <;> (try (cases h; done))
    rename_i hx
    split at h <;> (try (cases h; done))
    rename_i hl
    split at h <;> (try (cases h; done))
    rename_i hh
    rw [e1 hx, e2 hl, e2 hh]; exact h
  case typeAssert x s t ok =>
    split at h <;> (try (cases h; done))
    rename_i hx; rw [e1 hx]; exact h
  case build t ps =>
    split at h <;> (try (cases h; done))
    rename_i hx; rw [evParts_mono hs hx]; exact h

theorem allocOp_mono (hs : Sub tm tm2) {op : Op} {v : AObj × (Nat → Value)} (h : allocOp cx tm op = some v) : allocOp cx tm2 op = some v := by
  have e1 : ∀ {x : Operand} {u : Value}, ev cx tm x = some u → ev cx tm2 x = some u := fun h => ev_mono hs h
  cases op <;> simp only [allocOp] at h ⊢ <;> (try (cases h; done)) <;> (try (exact h))
  case box e x =>
    split at h <;> (try (cases h; done))
    rename_i hx; rw [e1 hx]; exact h
  case buildSlice t n ps =>
    split at h <;> (try (cases h; done))
    rename_i hx hd; rw [evParts_mono hs hx, hd]; exact h
  case makeSlice t l c =>
    split at h <;> (try (cases h; done))
    rename_i hl hc hd; rw [e1 hl, e1 hc, hd]; exact h
  case makeMap t r =>
    split at h
    · exact h
    · split at h <;> (try (cases h; done))
      rename_i hx hd; rw [e1 hx, hd]; exact h
  case convert s d x =>
    split at h <;> (try (cases h; done))
    rename_i hx h1 h2; rw [e1 hx, h1, h2]; exact h
  case range t x =>
    split at h <;> (try (cases h; done))
    rename_i hx h1; rw [e1 hx, h1]; exact h

theorem readOp_mono (hs : Sub tm tm2) {st : St} {op : Op} {v : Value} (h : readOp cx tm st op = some v) : readOp cx tm2 st op = some v := by
  have e1 : ∀ {x : Operand} {u : Value}, ev cx tm x = some u → ev cx tm2 x = some u := fun h => ev_mono hs h
  have e2 : ∀ {x : Option Operand} {u : Option Value}, opt cx tm x = some u → opt cx tm2 x = some u := fun h => opt_mono hs h
  cases op <;> simp only [readOp] at h ⊢ <;> (try (cases h; done))
  case load t x =>
    split at h <;> (try (cases h; done))
    rename_i hx; rw [e1 hx]; exact h
  case convert s d x =>
    split at h <;> (try (cases h; done))
    · split at h <;> (try (cases h; done))
      split at h <;> (try (cases h; done)) <;> (rename_i hx; rw [e1 hx]; exact h)
    · split at h <;> (try (cases h; done))
      rename_i hx; simp only [e1 hx]; exact h
    · split at h <;> (try (cases h; done))
      rename_i hx; simp only [e1 hx]; exact h
  case slice t x lo hi mx =>
    split at h
    · split at h <;> (try (cases h; done))
      rename_i hx
      split at h <;> (try (cases h; done))
      rename_i hl
      split at h <;> (try (cases h; done))
      rename_i hh
      split at h <;> (try (cases h; done))
      rename_i hm
      rw [e1 hx, e2 hl, e2 hh, e1 hm]; exact h
    · split at h <;> (try (cases h; done))
      rename_i hx
      split at h <;> (try (cases h; done))
      rename_i hl
      split at h <;> (try (cases h; done))
      rename_i hh
      rw [e1 hx, e2 hl, e2 hh]; exact h
  case lookup t m k ok =>
    split at h <;> (try (cases h; done))
    rename_i h1 hm hk
    rw [h1, e1 hm, e1 hk]; exact h
  case call c =>
    split at h <;> (try (cases h; done))
    rename_i b hb
    split at h <;> (try (cases h; done))
    split at h <;> (try (cases h; done))
    rename_i ha ht
    split at h <;> (try (cases h; done))
    rename_i hd hx
    rw [hd, e1 hx]; exact h

theorem heavyCall_mono (hs : Sub tm tm2) {st : St} {c : Call} {v : Value × St} (h : heavyCall cx tm st c = some v) : heavyCall cx tm2 st c = some v := by
  unfold heavyCall at h ⊢
  split at h <;> (try (cases h; done))
  split at h <;> (try (cases h; done))
  rename_i has
  rw [evs_mono hs has]; exact h

theorem heavyOp_mono (hs : Sub tm tm2) {st : St} {op : Op} {v : Value × St} (h : heavyOp cx tm st op = some v) : heavyOp cx tm2 st op = some v := by
  have e1 : ∀ {x : Operand} {u : Value}, ev cx tm x = some u → ev cx tm2 x = some u := fun h => ev_mono hs h
  cases op <;> simp only [heavyOp] at h ⊢ <;> (try (cases h; done)) <;> (try (exact heavyCall_mono hs h))
  case store t x y =>
    split at h <;> (try (cases h; done))
    rename_i hx hy; rw [e1 hx, e1 hy]; exact h
  case mapUpdate t m k x =>
    split at h <;> (try (cases h; done))
    rename_i hm hk hx; rw [e1 hm, e1 hk, e1 hx]; exact h
  case insert t m k x =>
    split at h <;> (try (cases h; done))
    rename_i hm hk hx; rw [e1 hm, e1 hk, e1 hx]; exact h
  case range t x =>
    split at h <;> (try (cases h; done))
    · rename_i hx hd; rw [e1 hx, hd]; exact h
    · rename_i hx hd; rw [e1 hx, hd]; exact h
  case next it s =>
    split at h <;> (try (cases h; done))
    split at h <;> (try (cases h; done))
    rename_i hx; rw [e1 hx]; exact h

theorem wantedA_mono (hs : Sub tm tm2) {ops : List Oper} {o : Oper} {b : Bool} (h : wantedA ops tm o = some b) : wantedA ops tm2 o = some b := by
  unfold wantedA at h ⊢
  split at h
  · exact h
  · split at h <;> (try (cases h; done))
    split at h <;> (try (cases h; done))
    split at h <;> (try (cases h; done))
    · rename_i ht; rw [hs _ _ ht]; exact h
    · rename_i v h1 h2 ht
      rw [hs _ _ ht]
      cases v <;> first | exact h | exact absurd rfl (h1 _) | exact absurd rfl (h2 _)

theorem resultsOf_mono (hs : Sub tm tm2) {st : St} : ∀ {l : List ResultVar} {vs : List Value}, resultsOf cx tm st l = some vs → resultsOf cx tm2 st l = some vs := by
  intro l
  induction l with
  | nil => intro vs h; exact h
  | cons r l ih =>
    intro vs h
    simp only [resultsOf] at h ⊢
    split at h <;> (try (cases h; done))
    rename_i v hv
    split at h <;> (try (cases h; done))
    rename_i ws hw
    have : resultOf cx tm2 st r = some v := by
      cases r with
      | tmp t => exact hs t v hv
      | cell a t =>
        simp only [resultOf] at hv ⊢
        split at hv <;> (try (cases hv; done))
        rename_i hx; rw [hs _ _ hx]; exact hv
    rw [this, ih hw]; exact h

theorem limit_mono (hs : Sub tm tm2) : ∀ (l : List Tmp), Sub (limit tm l) (limit tm2 l) := by
  intro l
  induction l with
  | nil => exact Sub.refl _
  | cons t l ih =>
    simp only [limit]
    cases h1 : tm.get t with
    | some v => rw [hs _ _ h1]; exact ih.set t v
    | none =>
      cases h2 : tm2.get t with
      | none => exact ih
      | some v =>
        have lem : ∀ (m : List Tmp) (u : Value), (limit tm m).get t = some u → False := by
          intro m
          induction m with
          | nil => intro u h; cases h
          | cons x m ihm =>
            intro u h
            simp only [limit] at h
            split at h
            · rename_i w hw
              rw [T.get_set] at h
              split at h
              · rename_i e; subst e; rw [hw] at h1; cases h1
              · exact ihm u h
            · exact ihm u h
        intro s u h
        simp only
        rw [T.get_set]
        split
        · rename_i e; subst e; exact absurd h (fun h => lem l u h)
        · exact ih s u h

theorem putDst_mono (hs : Sub tm tm2) {nt : Nat} {d : Option Tmp} {v : Value} {tm' : T Value} (h : putDst nt tm d v = some tm') : ∃ tm2', putDst nt tm2 d v = some tm2' ∧ Sub tm' tm2' := by
  unfold putDst at h ⊢
  split at h
  · simp only [Option.some.injEq] at h; subst h; exact ⟨_, rfl, hs⟩
  · split at h <;> (try (cases h; done))
    simp only [Option.some.injEq] at h; subst h
    exact ⟨_, rfl, hs.set _ _⟩

end
end Go.Ai

/-! Code, calls, the whole: what the interpreter for open values says, the other one says, with as many temporaries known or more. -/
namespace Go.Ai
open Go

structure OvRef (ov : Ov) (ovO : OvO) : Prop where
  fn : ∀ f g args st, ovO.fn f = some g → (g args st).Ok fun q => ∃ g', ov f = some g' ∧ g' args st = some q
  no : ∀ a, ovO.lp (keyOf a 1) = none → ov.lp a = none
  lp : ∀ a c g nt tm st, ovO.lp (keyOf a 1) = some (c, g) → (g nt tm st).Ok fun q => a = c → ∀ tm2, Sub tm tm2 → ∃ g' tm2', ov.lp a = some g' ∧ g' nt tm2 st = some (q.1, tm2', q.2.2) ∧ Sub q.2.1 tm2'
def RunRef (ih : CodeRun) (ihO : RunO) : Prop := ∀ c nt tm st, (ihO c nt tm st).Ok fun q => ∀ tm2, Sub tm tm2 → ∃ tm2', ih c nt tm2 st = some (q.1, tm2', q.2.2) ∧ Sub q.2.1 tm2'

section
variable {P : Program} {ov : Ov} {ovO : OvO} {ih : CodeRun} {ihO : RunO}

theorem callAO_ok (hr : OvRef ov ovO) (hi : RunRef ih ihO) {f : Nat} {args : List Value} {st : St} : (callAO (Cx.of P) ov ovO ihO f args st).Ok fun q => callA (Cx.of P) ov ih f args st = some q := by
  unfold callAO
  split
  · rename_i g hg
    refine ok_mono (hr.fn f g args st hg) fun q hq => ?_
    obtain ⟨g', h1, h2⟩ := hq
    simp only [callA, h1, h2]
  · split
    · rename_i g hg
      exact ok_mono ok_lift fun q hq => by simp only [callA, hg]; exact hq
    · rename_i ho
      split
      · rename_i fn hfn
        split
        · rename_i c hc
          split
          · rename_i hb
            refine ok_bind (hi c fn.ntmps (setParams args 0 .nil) st) fun q => ?_
            obtain ⟨ex, tm, st'⟩ := q
            simp only
            split
            · rename_i hd
              split
              · exact ok_no
              · exact ok_no
              · rename_i hne1 hne2
                have key : ∀ v st2 vs, resultsOf (Cx.of P) tm st' fn.results.toList = some vs → (match (some vs : Option (List Value)) with | some [v] => some (v, st') | some vs => some (.tuple ⟨vs⟩, st') | none => none) = some (v, st2) →
                    (∀ tm2, Sub (setParams args 0 .nil) tm2 → ∃ tm2', ih c fn.ntmps tm2 st = some (ex, tm2', st') ∧ Sub tm tm2') → callA (Cx.of P) ov ih f args st = some (v, st2) := by
                  intro v st2 vs h0 h1 h2
                  obtain ⟨tm2', h3, h4⟩ := h2 _ (Sub.refl _)
                  have h5 := resultsOf_mono (cx := Cx.of P) h4 h0
                  simp only [callA, ho, hfn, hc, hb, h3, hd]
                  rw [h5]
                  cases ex with
                  | normal => exact h1
                  | ret => exact h1
                  | exit id => exact absurd rfl (hne1 id)
                  | goto l => exact absurd rfl (hne2 l)
                split
                · rename_i v hv
                  exact ok_ret fun h => key _ _ _ hv rfl h
                · rename_i vs hno hv
                  refine ok_ret fun h => key _ _ _ hv ?_ h
                  cases vs with
                  | nil => rfl
                  | cons x vs => cases vs with
                    | nil => exact absurd rfl (hno x)
                    | cons y vs => rfl
                · exact ok_no
            · exact ok_no
          · exact ok_no
        · exact ok_no
      · exact ok_no

theorem callOpO_ok (hr : OvRef ov ovO) (hi : RunRef ih ihO) {tm : T Value} {st : St} {op : Op} : (callOpO (Cx.of P) ov ovO ihO tm st op).Ok fun q => ∀ tm2, Sub tm tm2 → callOp (Cx.of P) ov ih tm2 st op = some q := by
  unfold callOpO
  split
  · rename_i c
    split
    · rename_i f hf
      split
      · rename_i fn first captured as h1 h2
        split
        · rename_i k
          refine ok_mono (callAO_ok hr hi) fun q hq tm2 hs => ?_
          simp only [callOp, hf, ev_mono hs h1, evs_mono hs h2, hq]
        · exact ok_no
      · exact ok_no
    · exact ok_no
  · exact ok_no

theorem allocO_ok {cx : Cx} {tm : T Value} {op : Op} : (allocO cx tm op).Ok fun q => allocOp cx tm op = some q := by
  unfold allocO
  split
  · split
    · rename_i h1 h2 h3
      split
      · rename_i h4 h5
        exact ok_want (ok_ret fun hb => by simp only [allocOp, h1, h2, h3, h4, h5, hb])
      · exact ok_no
    · exact ok_no
  · split
    · rename_i h1 h2 h3
      split
      · rename_i i h4
        refine ok_bind ok_conc fun l => ok_bind ok_conc fun c => ok_want ?_
        split
        · rename_i z h5
          refine ok_ret fun hb hc hl => ?_
          subst hc; subst hl
          simp only [allocOp, h1, h2, h3, h4, h5, hb]
        · exact ok_no
      · exact ok_no
    · exact ok_no
  · exact ok_lift

theorem opO_ok (hr : OvRef ov ovO) (hi : RunRef ih ihO) {tm : T Value} {st : St} {o : Oper} : (opO (Cx.of P) ov ovO ihO tm st o).Ok fun q => ∀ tm2, Sub tm tm2 → opA (Cx.of P) ov ih tm2 st o = some q := by
  unfold opO
  split
  · rename_i hk
    exact ok_bind pureO_ok fun v => ok_ret fun h tm2 hs => by simp only [opA, hk, pureOp_mono hs h]
  · rename_i hk
    exact ok_bind allocO_ok fun q => ok_ret fun h tm2 hs => by simp only [opA, hk, allocOp_mono hs h]
  · rename_i hk
    exact ok_bind readO_ok fun v => ok_ret fun h tm2 hs => by simp only [opA, hk, readOp_mono hs h]
  · rename_i hk
    split
    · rename_i hv
      exact ok_mono (callOpO_ok hr hi) fun q hq tm2 hs => by simp only [opA, hk, isVal_heavy hv]; exact hq tm2 hs
    · exact ok_mono heavyO_ok fun q hq tm2 hs => by simp only [opA, hk, heavyOp_mono hs hq]

theorem wantedO_ok {ops : List Oper} {tm : T Value} {o : Oper} : (wantedO ops tm o).Ok fun b => wantedA ops tm o = some b := by
  unfold wantedO
  split
  · rename_i hg
    exact ok_ret (by simp only [wantedA, hg])
  · rename_i j w hg
    split
    · rename_i p hp
      split
      · rename_i d hd
        split
        · rename_i b hb
          refine ok_bind ok_ask fun c => ok_ret fun h => ?_
          subst h
          simp only [wantedA, hg, hp, hd, hb]
        · exact ok_no
        · rename_i v h1 h2 hv
          refine ok_ret ?_
          simp only [wantedA, hg, hp, hd, hv]
        · exact ok_no
      · exact ok_no
    · exact ok_no

theorem opsO_ok (hr : OvRef ov ovO) (hi : RunRef ih ihO) {nt : Nat} {all : List Oper} : ∀ (l : List Oper) (tm : T Value) (st : St), (opsO (Cx.of P) ov ovO ihO nt all l tm st).Ok fun q => ∀ tm2, Sub tm tm2 → ∃ tm2', opsA (Cx.of P) ov ih nt all l tm2 st = some (tm2', q.2) ∧ Sub q.1 tm2' := by
  intro l
  induction l with
  | nil => intro tm st; exact ok_ret fun tm2 hs => ⟨tm2, rfl, hs⟩
  | cons o l ihl =>
    intro tm st
    simp only [opsO]
    refine ok_bind wantedO_ok fun w => ?_
    cases w with
    | true =>
      simp only
      refine ok_bind (opO_ok hr hi) fun q => ?_
      obtain ⟨v, st'⟩ := q
      simp only
      split
      · rename_i tm' ht
        refine ok_mono (ihl tm' st') fun r hr2 h1 h2 tm2 hs => ?_
        obtain ⟨t2, g1, g2⟩ := putDst_mono hs ht
        simp only [opsA, wantedA_mono hs h2, h1 tm2 hs, g1]; exact hr2 t2 g2
      · exact ok_no
    | false =>
      simp only
      split
      · rename_i tm' ht
        refine ok_mono (ihl tm' st) fun r hr2 h2 tm2 hs => ?_
        obtain ⟨t2, g1, g2⟩ := putDst_mono hs ht
        simp only [opsA, wantedA_mono hs h2, g1]; exact hr2 t2 g2
      · exact ok_no

theorem readAtO_ok {tm : T Value} {hp : T AObj} {pend : Pend} {bef : Nat} {op : Op} : (readAtO (Cx.of P) tm hp pend bef op).Ok fun v => ∀ tm2, Sub tm tm2 → readAt (Cx.of P) tm2 hp pend bef op = some v := ok_mono readO_ok fun _ h _ hs => readOp_mono hs h

theorem pastO_ok {bef : Nat} {tm : T Value} {op : Op} {v : Value} : ∀ (l : List (Nat × T AObj × Pend)), (pastO (Cx.of P) bef tm op v l).Ok fun _ => ∀ tm2, Sub tm tm2 → pastOk (Cx.of P) bef tm2 op v l = true := by
  intro l
  induction l with
  | nil => exact ok_ret fun _ _ => rfl
  | cons x l ihl =>
    obtain ⟨h, hp, pend⟩ := x
    simp only [pastO]
    split
    · rename_i hb
      exact ok_mono ihl fun u hu tm2 hs => by simp only [pastOk, hb, Bool.true_or, Bool.true_and]; exact hu tm2 hs
    · refine ok_bind readAtO_ok fun u => ok_need (ok_mono ihl fun r hr2 hn hu tm2 hs => ?_)
      simp only [pastOk, readIs, hu tm2 hs, hn, Bool.or_true, Bool.true_and]
      exact hr2 tm2 hs

/-- what was read, with more temporaries known -/
def RSub : List (Nat × T Value × Op × Value) → List (Nat × T Value × Op × Value) → Prop
  | [], [] => True
  | (r, tm, op, v) :: l, (r', tm', op', v') :: l' => r = r' ∧ Sub tm tm' ∧ op = op' ∧ v = v' ∧ RSub l l'
  | _, _ => False

theorem readsO_ok {befs : List Nat} {bef : Nat} {hp : T AObj} {pend : Pend} : ∀ (l : List (Nat × T Value × Op × Value)), (readsO (Cx.of P) befs bef hp pend l).Ok fun _ => ∀ l2, RSub l l2 → readsOk (Cx.of P) befs bef hp pend l2 = true := by
  intro l
  induction l with
  | nil => exact ok_ret fun l2 h => by cases l2 with | nil => rfl | cons x l2 => exact absurd h id
  | cons x l ihl =>
    obtain ⟨r, tm, op, v⟩ := x
    simp only [readsO]
    split
    · rename_i hb
      refine ok_mono ihl fun u hu l2 hs => ?_
      cases l2 with
      | nil => exact absurd hs id
      | cons y l2 =>
        obtain ⟨r', tm', op', v'⟩ := y
        obtain ⟨rfl, h1, rfl, rfl, h2⟩ := hs
        simp only [readsOk, hb, Bool.true_or, Bool.true_and]; exact hu l2 h2
    · refine ok_bind readAtO_ok fun u => ok_need (ok_mono ihl fun _ hr2 hn hu l2 hs => ?_)
      cases l2 with
      | nil => exact absurd hs id
      | cons y l2 =>
        obtain ⟨r', tm', op', v'⟩ := y
        obtain ⟨rfl, h1, rfl, rfl, h2⟩ := hs
        simp only [readsOk, readIs, hu tm' h1, hn, Bool.or_true, Bool.true_and]
        exact hr2 l2 h2

structure DSub (a b : DS) : Prop where
  tm : Sub a.tm b.tm
  st : b.st = a.st
  pend : b.pend = a.pend
  past : b.past = a.past
  reads : RSub a.reads b.reads

theorem putD_mono {nt : Nat} {a b : DS} (h : DSub a b) {d : Option Tmp} {v : Value} {a' : DS} (hp : putD nt a d v = some a') : ∃ b', putD nt b d v = some b' ∧ DSub a' b' := by
  unfold putD at hp ⊢
  split at hp <;> (try (cases hp; done))
  rename_i t ht
  obtain ⟨t2, h1, h2⟩ := putDst_mono h.tm ht
  simp only [Option.some.injEq] at hp; subst hp
  rw [h1]
  exact ⟨_, rfl, h2, h.st, h.pend, h.past, h.reads⟩

theorem stepDO_ok (hr : OvRef ov ovO) (hi : RunRef ih ihO) {nt : Nat} {all : List Oper} {befs : List Nat} {i : Nat} {o : Oper} {ds : DS} : (stepDO (Cx.of P) ov ovO ihO nt all befs i o ds).Ok fun q => ∀ ds2, DSub ds ds2 → ∃ q2, stepD (Cx.of P) ov ih nt all befs i o ds2 = some q2 ∧ DSub q q2 := by
  unfold stepDO
  refine ok_bind wantedO_ok fun w => ?_
  cases w with
  | false =>
    refine ok_mono ok_lift fun q hq h ds2 hs => ?_
    simp only [stepD, wantedA_mono (limit_mono hs.tm _) h]
    exact putD_mono hs hq
  | true =>
    simp only
    split
    · rename_i hk
      refine ok_bind pureO_ok fun v => ok_mono ok_lift fun q hq h1 h ds2 hs => ?_
      simp only [stepD, wantedA_mono (limit_mono hs.tm _) h, hk, pureOp_mono (limit_mono hs.tm _) h1]
      exact putD_mono hs hq
    · rename_i hk
      refine ok_bind allocO_ok fun a => ok_mono ok_lift fun q hq ha h ds2 hs => ?_
      simp only [stepD, wantedA_mono (limit_mono hs.tm _) h, hk, allocOp_mono (limit_mono hs.tm _) ha, hs.st]
      refine putD_mono ?_ hq
      exact ⟨hs.tm, rfl, by simp only [hs.pend], hs.past, hs.reads⟩
    · rename_i hk
      refine ok_bind readAtO_ok fun v => ok_bind (pastO_ok _) fun _ => ok_mono ok_lift fun q hq h2 h1 h ds2 hs => ?_
      simp only [stepD, wantedA_mono (limit_mono hs.tm _) h, hk, hs.st, hs.pend, hs.past, h1 _ (limit_mono hs.tm _), h2 _ (limit_mono hs.tm _)]
      refine putD_mono ?_ hq
      exact ⟨hs.tm, rfl, rfl, rfl, ⟨rfl, limit_mono hs.tm _, rfl, rfl, hs.reads⟩⟩
    · rename_i hk
      refine ok_bind (opO_ok hr hi) fun q => ok_bind (readsO_ok _) fun _ => ok_mono ok_lift fun r hr2 h2 h1 h ds2 hs => ?_
      obtain ⟨v, st'⟩ := q
      simp only at h2
      simp only [stepD, wantedA_mono (limit_mono hs.tm _) h, hk, hs.st, hs.pend, h1 _ (limit_mono hs.tm _), h2 _ hs.reads]
      refine putD_mono ?_ hr2
      exact ⟨hs.tm, rfl, rfl, by simp only [hs.past], hs.reads⟩

theorem stepsDO_ok (hr : OvRef ov ovO) (hi : RunRef ih ihO) {nt : Nat} {all : List Oper} {befs : List Nat} : ∀ (l : List Oper) (i : Nat) (ds : DS), (stepsDO (Cx.of P) ov ovO ihO nt all befs i l ds).Ok fun q => ∀ ds2, DSub ds ds2 → ∃ q2, stepsD (Cx.of P) ov ih nt all befs i l ds2 = some q2 ∧ DSub q q2 := by
  intro l
  induction l with
  | nil => intro i ds; exact ok_ret fun ds2 hs => ⟨ds2, rfl, hs⟩
  | cons o l ihl =>
    intro i ds
    simp only [stepsDO]
    refine ok_bind (stepDO_ok hr hi) fun ds' => ok_mono (ihl (i + 1) ds') fun q hq h ds2 hs => ?_
    obtain ⟨d2, h1, h2⟩ := h ds2 hs
    simp only [stepsD, h1]; exact hq d2 h2

theorem drawO_ok (hr : OvRef ov ovO) (hi : RunRef ih ihO) {nt : Nat} {all : List Oper} {tm : T Value} {st : St} : (drawO (Cx.of P) ov ovO ihO nt all tm st).Ok fun q => ∀ tm2, Sub tm tm2 → ∃ tm2', drawA (Cx.of P) ov ih nt all tm2 st = some (tm2', q.2) ∧ Sub q.1 tm2' := by
  unfold drawO
  split
  · rename_i hd
    refine ok_bind (stepsDO_ok hr hi _ _ _) fun ds => ok_ret fun h tm2 hs => ?_
    obtain ⟨d2, h1, h2⟩ := h ⟨tm2, st, [], [], []⟩ ⟨hs, rfl, rfl, rfl, trivial⟩
    exact ⟨d2.tm, by simp only [drawA, hd, h1, h2.st, h2.pend], h2.tm⟩
  · exact ok_no

theorem scopeO_ok (hi : RunRef ih ihO) {body : Code} {nt : Nat} : ∀ (n : Nat) (c : Code) (tm : T Value) (st : St), (scopeO ihO body nt n c tm st).Ok fun q => ∀ tm2, Sub tm tm2 → ∃ tm2', scopeA ih body nt n c tm2 st = some (q.1, tm2', q.2.2) ∧ Sub q.2.1 tm2' := by
  intro n
  induction n with
  | zero => intro c tm st; exact ok_no
  | succ n ihn =>
    intro c tm st
    simp only [scopeO]
    refine ok_bind (hi c nt tm st) fun q => ?_
    obtain ⟨ex, tm', st'⟩ := q
    simp only
    split
    · split
      · rename_i l rest hl
        refine ok_mono (ihn rest tm' st') fun r hr2 h tm2 hs => ?_
        obtain ⟨t2, h1, h2⟩ := h tm2 hs
        simp only [scopeA, h1, hl]; exact hr2 t2 h2
      · rename_i l hl
        refine ok_ret fun h tm2 hs => ?_
        obtain ⟨t2, h1, h2⟩ := h tm2 hs
        exact ⟨t2, by simp only [scopeA, h1, hl], h2⟩
    · rename_i hne
      refine ok_ret fun h tm2 hs => ?_
      obtain ⟨t2, h1, h2⟩ := h tm2 hs
      refine ⟨t2, ?_, h2⟩
      simp only [scopeA, h1]

theorem stepO_ok (hr : OvRef ov ovO) (hi : RunRef ih ihO) : RunRef (stepA (Cx.of P) ov ih) (stepO (Cx.of P) ov ovO ihO) := by
  intro c nt tm st
  have seq : ∀ (a b : Code) (h : ∀ tm2 ex tm' st', ih a nt tm2 st = some (ex, tm', st') → stepA (Cx.of P) ov ih c nt tm2 st = match ex with | .normal => ih b nt tm' st' | _ => some (ex, tm', st')),
      ((ihO a nt tm st).bind fun q => seqO ihO b nt q).Ok fun q => ∀ tm2, Sub tm tm2 → ∃ tm2', stepA (Cx.of P) ov ih c nt tm2 st = some (q.1, tm2', q.2.2) ∧ Sub q.2.1 tm2' := by
    intro a b h
    refine ok_bind (hi a nt tm st) fun q => ?_
    obtain ⟨ex, tm', st'⟩ := q
    unfold seqO
    simp only
    split
    · refine ok_mono (hi b nt tm' st') fun r hr2 h0 tm2 hs => ?_
      obtain ⟨t2, h1, h2⟩ := h0 tm2 hs
      rw [h _ _ _ _ h1]; exact hr2 t2 h2
    · rename_i hne
      refine ok_ret fun h0 tm2 hs => ?_
      obtain ⟨t2, h1, h2⟩ := h0 tm2 hs
      refine ⟨t2, ?_, h2⟩
      rw [h _ _ _ _ h1]
      cases ex <;> first | rfl | exact absurd rfl hne
  cases c with
  | skip => exact ok_ret fun tm2 hs => ⟨tm2, rfl, hs⟩
  | label l => exact ok_ret fun tm2 hs => ⟨tm2, rfl, hs⟩
  | ret => exact ok_ret fun tm2 hs => ⟨tm2, rfl, hs⟩
  | exit id => exact ok_ret fun tm2 hs => ⟨tm2, rfl, hs⟩
  | goto l => exact ok_ret fun tm2 hs => ⟨tm2, rfl, hs⟩
  | scope a => exact scopeO_ok hi _ _ _ _
  | seq a b =>
    refine seq a b fun tm2 ex tm' st' h => ?_
    simp only [stepA, h]
    cases ex <;> rfl
  | cond x a b =>
    simp only [stepO, condO]
    split
    · rename_i d hd
      refine ok_bind ok_ask fun e => ?_
      cases e with
      | true => exact ok_mono (hi a nt tm st) fun q hq h tm2 hs => by subst h; simp only [stepA, ev_mono hs hd]; exact hq tm2 hs
      | false => exact ok_mono (hi b nt tm st) fun q hq h tm2 hs => by subst h; simp only [stepA, ev_mono hs hd]; exact hq tm2 hs
    · exact ok_no
  | block id a =>
    simp only [stepO]
    refine ok_bind (hi a nt tm st) fun q => ?_
    obtain ⟨ex, tm', st'⟩ := q
    unfold blockO
    simp only
    split
    · rename_i id'
      split
      · rename_i hb
        refine ok_ret fun h0 tm2 hs => ?_
        obtain ⟨t2, h1, h2⟩ := h0 tm2 hs
        exact ⟨t2, by simp only [stepA, h1, hb], h2⟩
      · rename_i hb
        refine ok_ret fun h0 tm2 hs => ?_
        obtain ⟨t2, h1, h2⟩ := h0 tm2 hs
        exact ⟨t2, by simp only [stepA, h1, hb], h2⟩
    · rename_i hne
      refine ok_ret fun h0 tm2 hs => ?_
      obtain ⟨t2, h1, h2⟩ := h0 tm2 hs
      refine ⟨t2, ?_, h2⟩
      simp only [stepA, h1]
  | loop a =>
    simp only [stepO]
    split
    · rename_i c g hl
      refine ok_need (ok_mono (hr.lp a c g nt tm st hl) fun q hq hc tm2 hs => ?_)
      obtain ⟨g', t2, h1, h2, h3⟩ := hq hc tm2 hs
      exact ⟨t2, by simp only [stepA, h1, h2], h3⟩
    · rename_i hl
      have hno := hr.no a hl
      split
      · exact ok_no
      · rename_i hm
        refine seq a (.loop a) fun tm2 ex tm' st' h => ?_
        simp only [stepA, hno, hm, h]
        cases ex <;> rfl
  | region id ops draw =>
    simp only [stepO]
    split
    · refine ok_bind (opsO_ok hr hi _ _ _) fun q => ok_ret fun h0 tm2 hs => ?_
      obtain ⟨t2, h1, h2⟩ := h0 tm2 hs
      exact ⟨t2, by simp only [stepA, h1], h2⟩
    · refine ok_bind (drawO_ok hr hi) fun q => ok_ret fun h0 tm2 hs => ?_
      obtain ⟨t2, h1, h2⟩ := h0 tm2 hs
      exact ⟨t2, by simp only [stepA, h1], h2⟩
  | rangeFunc f ps as bo => exact ok_no
  | refuse s => exact ok_no

theorem runO_ok (hr : OvRef ov ovO) : ∀ n, RunRef (run (Cx.of P) ov n) (runO (Cx.of P) ov ovO n) := by
  intro n
  induction n with
  | zero => intro c nt tm st; exact ok_no
  | succ n ihn => exact stepO_ok hr ihn

theorem callO_ok (hr : OvRef ov ovO) {n f : Nat} {args : List Value} {st : St} : (callO (Cx.of P) ov ovO n f args st).Ok fun q => call (Cx.of P) ov n f args st = some q := callAO_ok hr (runO_ok hr n)

end
end Go.Ai

/-! Contracts: functions and loops whose values hold no address, known for all arguments that fit. -/
namespace Go.Ai
open Go
noncomputable section

/-- a function: what its arguments must be, what it answers, the laid objects that it looks at -/
structure FC where
  f : Nat
  pre : List Value → Prop
  res : List Value → Value
  ids : List Nat
/-- a loop: its code, the temporaries that it reads, those that are told behind it -/
structure LC where
  c : Code
  nt : Nat
  keys : List Tmp
  outs : List Tmp
  pre : List Value → Prop
  res : List Value → Ex × List Value
  ids : List Nat

def readT (tm : T Value) : List Tmp → Option (List Value)
  | [] => some []
  | t :: l => match tm.get t with
    | some v => match readT tm l with
      | some vs => some (v :: vs)
      | none => none
    | none => none
def putT : List Tmp → List Value → T Value → T Value
  | t :: l, v :: vs, tm => (putT l vs tm).set t v
  | _, _, tm => tm

def FC.go (st0 : St) (C : FC) (args : List Value) (st : St) : Option (Value × St) :=
  open Classical in match hasIds st0.hp st.hp C.ids with
  | true => if C.pre args then some (C.res args, st) else none
  | false => none
def LC.go (st0 : St) (L : LC) (nt : Nat) (tm : T Value) (st : St) : Option (Ex × T Value × St) :=
  open Classical in match Nat.beq nt L.nt && hasIds st0.hp st.hp L.ids with
  | true => match readT tm L.keys with
    | some vs => if L.pre vs then some ((L.res vs).1, putT L.outs (L.res vs).2 (forget (dstsOf L.c) tm), st) else none
    | none => none
  | false => none
def findF (f : Nat) : List FC → Option FC
  | [] => none
  | C :: l => match Nat.beq C.f f with
    | true => some C
    | false => findF f l
def findK (k : Nat) : List (Nat × LC) → Option LC
  | [] => none
  | x :: l => match Nat.beq x.1 k with
    | true => some x.2
    | false => findK k l
def ovWith (st0 : St) (fs : List FC) (ls : List (Nat × LC)) (ov : Ov) : Ov where
  fn := fun f => match findF f fs with
    | some C => some (C.go st0)
    | none => ov f
  lp := open Classical in fun a => match findK (keyOf a 1) ls with
    | some L => if a = L.c then some (L.go st0) else none
    | none => ov.lp a

def FC.goO (st0 : St) (C : FC) (args : List Value) (st : St) : OM (Value × St) := match hasIds st0.hp st.hp C.ids with
  | true => need (C.pre args) (.ret (C.res args, st))
  | false => .no 160
def LC.goO (st0 : St) (L : LC) (nt : Nat) (tm : T Value) (st : St) : OM (Ex × T Value × St) := match Nat.beq nt L.nt && hasIds st0.hp st.hp L.ids with
  | true => match readT tm L.keys with
    | some vs => need (L.pre vs) (.ret ((L.res vs).1, putT L.outs (L.res vs).2 (forget (dstsOf L.c) tm), st))
    | none => .no 161
  | false => .no 162
def ovOWith (st0 : St) (fs : List FC) (ls : List (Nat × LC)) (ovO : OvO) : OvO where
  fn := fun f => match findF f fs with
    | some C => some (C.goO st0)
    | none => ovO.fn f
  lp := fun k => match findK k ls with
    | some L => some (L.c, L.goO st0)
    | none => ovO.lp k
def ovONone : OvO := ⟨fun _ => none, fun _ => none⟩

/-! ### the one says what the other one says -/
theorem readT_mono {tm tm2 : T Value} (hs : Sub tm tm2) : ∀ {l : List Tmp} {vs : List Value}, readT tm l = some vs → readT tm2 l = some vs := by
  intro l
  induction l with
  | nil => intro vs h; exact h
  | cons t l ih =>
    intro vs h
    simp only [readT] at h ⊢
    split at h <;> (try (cases h; done))
    rename_i v hv
    split at h <;> (try (cases h; done))
    rename_i ws hw
    rw [hs _ _ hv, ih hw]; exact h
theorem putT_sub : ∀ (l : List Tmp) (vs : List Value) {a b : T Value}, Sub a b → Sub (putT l vs a) (putT l vs b)
  | [], _, _, _, h => h
  | t :: l, [], _, _, h => h
  | t :: l, v :: vs, _, _, h => (putT_sub l vs h).set t v
theorem forget_get2 (l : List Tmp) : ∀ (tm : T Value) (t : Tmp), (forget l tm).get t = if t ∈ l then none else tm.get t := by
  induction l with
  | nil => intro tm t; simp [forget]
  | cons x l ih =>
    intro tm t
    simp only [forget, ih, T.get_del, List.mem_cons]
    by_cases h1 : t ∈ l
    · simp [h1]
    · by_cases h2 : x = t
      · subst h2; simp
      · simp [h1, Ne.symm h2]
theorem forget_sub (l : List Tmp) {a b : T Value} (h : Sub a b) : Sub (forget l a) (forget l b) := by
  intro t v ht
  rw [forget_get2] at ht ⊢
  split at ht
  · cases ht
  · rename_i hn; rw [if_neg hn]; exact h t v ht

theorem ovWith_ref {st0 : St} {fs : List FC} {ls : List (Nat × LC)} {ov : Ov} {ovO : OvO} (h : OvRef ov ovO) : OvRef (ovWith st0 fs ls ov) (ovOWith st0 fs ls ovO) where
  fn := by
    intro f g args st hg
    simp only [ovOWith] at hg
    split at hg
    · rename_i C hC
      simp only [Option.some.injEq] at hg; subst hg
      unfold FC.goO
      split
      · rename_i hi
        refine ok_need (ok_ret fun hp => ⟨C.go st0, ?_, ?_⟩)
        · simp only [ovWith, hC]
        · simp only [FC.go, hi, if_pos hp]
      · exact ok_no
    · rename_i hC
      refine ok_mono (h.fn f g args st hg) fun q hq => ?_
      simp only [ovWith, hC]; exact hq
  no := by
    intro a ha
    simp only [ovOWith] at ha
    split at ha <;> (try (cases ha; done))
    rename_i hk
    simp only [ovWith, hk]; exact h.no a ha
  lp := by
    intro a c g nt tm st hl
    simp only [ovOWith] at hl
    split at hl
    · rename_i L hL
      simp only [Option.some.injEq, Prod.mk.injEq] at hl
      obtain ⟨rfl, rfl⟩ := hl
      unfold LC.goO
      split
      · rename_i hi
        split
        · rename_i vs hv
          refine ok_need (ok_ret fun hp hc tm2 hs => ?_)
          refine ⟨L.go st0, putT L.outs (L.res vs).2 (forget (dstsOf L.c) tm2), ?_, ?_, ?_⟩
          · simp only [ovWith, hL, if_pos hc]
          · simp only [LC.go, hi, readT_mono hs hv, if_pos hp]
          · exact putT_sub _ _ (forget_sub _ hs)
        · exact ok_no
      · exact ok_no
    · rename_i hL
      refine ok_mono (h.lp a c g nt tm st hl) fun q hq hc tm2 hs => ?_
      simp only [ovWith, hL]; exact hq hc tm2 hs

theorem ovONone_ref {ov : Ov} (h : ∀ a, ov.lp a = none) : OvRef ov ovONone where
  fn := by intro f g args st hg; cases hg
  no := fun a _ => h a
  lp := by intro a c g nt tm st hl; cases hl

end
end Go.Ai

/-! Contracts are sound. -/
namespace Go.Ai
open Go
section
variable {P : Program} {ov : Ov}

structure FC.Good (P : Program) (ov : Ov) (st0 : St) (C : FC) : Prop where
  keep : keepOk st0.ct st0.hp C.ids = true
  ok : ∀ args, C.pre args → flatL args = true ∧ flat (C.res args) = true ∧ ∃ n st', call (Cx.of P) ov n C.f args ⟨keepIds st0.hp C.ids, st0.ct⟩ = some (C.res args, st')
structure LC.Good (P : Program) (ov : Ov) (st0 : St) (L : LC) : Prop where
  keep : keepOk st0.ct st0.hp L.ids = true
  outs : ∀ t ∈ L.outs, t ∈ dstsOf L.c
  ok : ∃ meas : List Value → Nat, ∀ vs, L.pre vs → flatL vs = true ∧ flatL (L.res vs).2 = true ∧ vs.length = L.keys.length ∧ ∃ n ex tmO st',
    (∀ tm2, Sub (putT L.keys vs .nil) tm2 → ∃ tm2', run (Cx.of P) ov n L.c L.nt tm2 ⟨keepIds st0.hp L.ids, st0.ct⟩ = some (ex, tm2', st') ∧ Sub tmO tm2') ∧
    ((ex = .normal ∧ ∃ vs', readT tmO L.keys = some vs' ∧ L.pre vs' ∧ meas vs' < meas vs ∧ L.res vs' = L.res vs) ∨ (ex ≠ .normal ∧ ex = (L.res vs).1 ∧ readT tmO L.outs = some (L.res vs).2))

/-- the laid objects alone, the ids above renamed: all the same -/
theorem keep_rep {st0 st : St} {ids : List Nat} (h3 : (Cx.of P).ng ≤ st0.ct) (h4 : keepOk st0.ct st0.hp ids = true) (hids : hasIds st0.hp st.hp ids = true)
    {m : Nat → Option Loc} {w : World} (hR : Rep (Cx.of P) m st.G w) (m1 : Nat → Option Loc) (hm1 : ∀ i, i < st0.ct → m1 i = m i) :
    Rep (Cx.of P) m1 (⟨keepIds st0.hp ids, st0.ct⟩ : St).G w ∧ ∀ m' G' w' ct', Step (Cx.of P) m1 (⟨keepIds st0.hp ids, st0.ct⟩ : St).G w st0.ct m' G' w' ct' → Step (Cx.of P) m st.G w st.ct m st.G w' st.ct := by
  have sub : ∀ id o, (⟨keepIds st0.hp ids, st0.ct⟩ : St).G id o → st.G id o ∧ o.isWr = false ∧ id < st0.ct ∧ belowO st0.ct o = true := by
    intro id o hg
    obtain ⟨g1, g2⟩ := keepIds_get _ _ _ hg
    obtain ⟨g3, o', g4, g5⟩ := keepOk_mem _ h4 id g1
    rw [g2] at g4; injection g4 with g4; subst g4
    obtain ⟨g6, g7⟩ := hasIds_mem _ hids id g1 o g2
    exact ⟨g6, g7, g3, g5⟩
  refine ⟨?_, ?_⟩
  · exact {
      dom := fun id o hg => by
        obtain ⟨g1, _, g3, _⟩ := sub id o hg
        obtain ⟨l, k1, k2⟩ := hR.dom id o g1
        exact ⟨l, by rw [hm1 id g3]; exact k1, k2⟩
      obj := fun μ hμ id o hg => by
        obtain ⟨g1, _, g3, g4⟩ := sub id o hg
        generalize hμ' : (fun i => if i < st0.ct then μ i else (m i).getD (μ i)) = μ'
        have hext : Ext m μ' := by
          intro i l hi
          rw [← hμ']
          by_cases hlt : i < st0.ct
          · simp only [hlt, if_true]
            exact hμ i l (by rw [hm1 i hlt]; exact hi)
          · simp [hlt, hi]
        have hag : AgreeBelow st0.ct μ μ' := fun i hi => by rw [← hμ']; simp [hi]
        exact (hR.obj μ' hext id o g1).below hag g3 g4
      inj := fun i j oi oj li lj hi _ hw => by
        have := (sub i oi hi).2.1
        rw [this] at hw; cases hw
      glob := fun g hg => by
        have : g < st0.ct := Nat.lt_of_lt_of_le hg h3
        rw [hm1 g this]; exact hR.glob g hg }
  · intro m' G' w' ct' hs
    have hblk : ∀ b, b < w.heap.size → w'.heap[b]? = w.heap[b]? := fun b hb => hs.fr.block b hb fun id o l hg hw => by rw [(sub id o hg).2.1] at hw; cases hw
    refine ⟨fun _ _ h => h, fun _ _ h => .inl h, ⟨?_, ?_, hR.inj, hR.glob⟩, ⟨hs.fr.size, hs.fr.os, hs.fr.tape, hs.fr.output, fun b hb _ => hblk b hb⟩, fun id o l hg hl => .inr ⟨id, o, l, hg, fun h => h, hl, rfl⟩⟩
    · intro id o hg
      obtain ⟨l, k1, k2⟩ := hR.dom id o hg
      exact ⟨l, k1, Nat.lt_of_lt_of_le k2 hs.fr.size⟩
    · intro μ hμ id o hg
      obtain ⟨l, k1, k2⟩ := hR.dom id o hg
      refine (hR.obj μ hμ id o hg).congr (hblk _ ?_)
      rw [hμ id l k1]; exact k2

theorem FC.sound (hmix : P.follows .mixedOrders = true) (hov : OvOk P ov) (hovm : OvMono ov) (hovi : OvIds ov) {st0 st : St} (h3 : (Cx.of P).ng ≤ st0.ct) {C : FC} (hC : C.Good P ov st0) {args : List Value} (hp : C.pre args) (hids : hasIds st0.hp st.hp C.ids = true)
    {m : Nat → Option Loc} {w : World} {cargs : List Value} (hR : Rep (Cx.of P) m st.G w) (ha : VReps m args cargs) : FnOk P C.f cargs.toArray w (CallPost (Cx.of P) m st w (C.res args) st) := by
  obtain ⟨h1, h2, n, st2, hc⟩ := hC.ok args hp
  generalize hm1 : (fun i => if i < st0.ct then m i else none) = m1
  obtain ⟨hR1, hback⟩ := keep_rep h3 hC.keep hids hR m1 (fun i hi => by rw [← hm1]; simp [hi])
  have hfl : ∀ μ : Nat → Loc, args.map (conc μ) = args := fun μ => by rw [← concL_eq]; exact concL_flat μ _ h1
  have hca : cargs = args := by rw [← ha _ (some0_ext m), hfl]
  have hfr : Fresh m1 st0.ct st2.ct := fun i hi _ => by rw [← hm1]; simp [Nat.not_lt.2 hi]
  have hcall := call_sound hmix hov hovm hovi hc hR1 (cargs := cargs) (fun μ _ => by rw [hca, hfl]) hfr
  have fin : ∀ cv w', CallPost (Cx.of P) m1 ⟨keepIds st0.hp C.ids, st0.ct⟩ w (C.res args) st2 cv w' → CallPost (Cx.of P) m st w (C.res args) st cv w' := by
    rintro cv w' ⟨m', hs, hvr⟩
    refine ⟨m, hback _ _ _ _ hs, ?_⟩
    intro μ _
    rw [conc_flat μ _ h2, ← hvr _ (some0_ext m'), conc_flat _ _ h2]
  rcases hcall with ⟨cv, w', k1, k2⟩ | ⟨k1, k2⟩
  · exact .inl ⟨cv, w', k1, fin cv w' k2⟩
  · exact .inr ⟨k1, k2.mono fun x w' ⟨y, hy, hp⟩ => ⟨y, hy, fin y w' hp⟩⟩

theorem putT_get : ∀ (l : List Tmp) (vs : List Value) (X : T Value) (t : Tmp) (v : Value), (putT l vs X).get t = some v → (∃ i : Nat, l[i]? = some t ∧ vs[i]? = some v) ∨ X.get t = some v
  | [], _, X, t, v, h => .inr h
  | x :: l, [], X, t, v, h => .inr h
  | x :: l, u :: vs, X, t, v, h => by
    simp only [putT, T.get_set] at h
    split at h
    · rename_i e
      subst e
      injection h with h; subst h
      exact .inl ⟨0, rfl, rfl⟩
    · rcases putT_get l vs X t v h with ⟨i, h1, h2⟩ | h
      · exact .inl ⟨i + 1, by simpa using h1, by simpa using h2⟩
      · exact .inr h
theorem readT_get : ∀ (l : List Tmp) (tm : T Value) (vs : List Value), readT tm l = some vs → ∀ (i : Nat) (t : Tmp) (v : Value), l[i]? = some t → vs[i]? = some v → tm.get t = some v := by
  intro l
  induction l with
  | nil => intro tm vs h i t v h1; simp at h1
  | cons x l ih =>
    intro tm vs h i t v h1 h2
    simp only [readT] at h
    split at h <;> (try (cases h; done))
    rename_i u hu
    split at h <;> (try (cases h; done))
    rename_i ws hw
    simp only [Option.some.injEq] at h; subst h
    cases i with
    | zero => simp at h1 h2; subst h1; subst h2; exact hu
    | succ i => exact ih _ _ hw i t v (by simpa using h1) (by simpa using h2)
theorem flatL_mem : ∀ (l : List Value), flatL l = true → ∀ v ∈ l, flat v = true
  | [], _, v, h => by simp at h
  | x :: l, hf, v, h => by
    simp only [flatL, Bool.and_eq_true] at hf
    rcases List.mem_cons.1 h with rfl | h
    · exact hf.1
    · exact flatL_mem l hf.2 v h

/-- what is known of the temporaries at the loop's head: those that it does not assign; those that it reads -/
structure Head (m : Nat → Option Loc) (tm : T Value) (L : LC) (vs : List Value) (a : Act) : Prop where
  old : ∀ t v, t ∉ dstsOf L.c → tm.get t = some v → ∃ cv, a.tmps[t]? = some cv ∧ VRep m v cv
  keys : ∀ (i : Nat) (t : Tmp) (v : Value), L.keys[i]? = some t → vs[i]? = some v → a.tmps[t]? = some v

theorem LC.round (hmix : P.follows .mixedOrders = true) (hov : OvOk P ov) (hovm : OvMono ov) (hovi : OvIds ov) {st0 : St} (h3 : (Cx.of P).ng ≤ st0.ct) {L : LC} (hL : L.Good P ov st0)
    {vs : List Value} (hfl : flatL vs = true) {n : Nat} {ex : Ex} {tmO : T Value} {st' : St}
    (hrun : ∀ tm2, Sub (putT L.keys vs .nil) tm2 → ∃ tm2', run (Cx.of P) ov n L.c L.nt tm2 ⟨keepIds st0.hp L.ids, st0.ct⟩ = some (ex, tm2', st') ∧ Sub tmO tm2')
    {ro : Option Nat} (hro : ro = none ∨ noRF L.c = true) {m : Nat → Option Loc} {st : St} {tm : T Value} {w : World} {a : Act} {B : Nat} (hids : hasIds st0.hp st.hp L.ids = true)
    (hR : Rep (Cx.of P) m st.G w) (hh : Head m tm L vs a) (hd : Marks B w a.defers) (hB : B ≤ w.heap.size) (hn : L.nt ≤ a.tmps.size) :
    L.c.wpIn (FR ro) 0 P (fun e a' w' => e = exitOf ex ∧ Step (Cx.of P) m st.G w st.ct m st.G w' st.ct ∧ Marks B w' a'.defers ∧ a'.tmps.size = a.tmps.size ∧
      (∀ t v, t ∉ dstsOf L.c → tm.get t = some v → ∃ cv, a'.tmps[t]? = some cv ∧ VRep m v cv) ∧
      ∀ t v, tmO.get t = some v → flat v = true → a'.tmps[t]? = some v) a w := by
  -- the ids from there on are called otherwise
  generalize hK : st'.ct + st0.ct = K
  generalize hρ : (fun i => if i < st0.ct then i else K + i) = ρ
  generalize hm1 : (fun i => if i < st0.ct then m i else if K ≤ i then m (i - K) else none) = m1
  have hmρ : ∀ i, m1 (ρ i) = m i := by
    intro i
    rw [← hm1, ← hρ]
    by_cases h : i < st0.ct
    · simp [h]
    · simp only [h, if_false]
      rw [if_neg (by omega), if_pos (by omega)]
      congr 1; omega
  obtain ⟨hR1, hback⟩ := keep_rep h3 hL.keep hids hR m1 (fun i hi => by rw [← hm1]; simp [hi])
  have hfr : Fresh m1 st0.ct st'.ct := fun i hi h2 => by rw [← hm1]; simp only; rw [if_neg (by omega), if_neg (by omega)]
  generalize htm1 : putT L.keys vs ((forget (dstsOf L.c) tm).mapO fun v => some (ren ρ v)) = tm1
  obtain ⟨tm2', hr, hsub⟩ := hrun tm1 (by rw [← htm1]; exact putT_sub _ _ (fun t v h => by cases h))
  have ht1 : TmRep m1 tm1 a.tmps := by
    intro t v ht
    rw [← htm1] at ht
    rcases putT_get _ _ _ _ _ ht with ⟨i, g1, g2⟩ | ht
    · refine ⟨v, hh.keys i t v g1 g2, fun μ _ => conc_flat μ v (flatL_mem _ hfl v (List.mem_of_getElem? g2))⟩
    · rw [T.get_mapO, forget_get2] at ht
      split at ht
      · cases ht
      · rename_i htd
        cases hv : tm.get t with
        | none => rw [hv] at ht; cases ht
        | some v0 =>
          rw [hv] at ht
          simp only [Option.bind_some, Option.some.injEq] at ht; subst ht
          obtain ⟨cv, g1, g2⟩ := hh.old t v0 htd hv
          refine ⟨cv, g1, fun μ hμ => ?_⟩
          rw [conc_ren]
          exact g2 _ (fun i l hi => hμ _ _ (by rw [hmρ]; exact hi))
  have hkeeps := run_keeps hovm n _ _ _ _ _ _ _ hr
  refine wpIn_mono ((run_ok hmix hov hovm hovi n).1 _ _ _ _ _ _ _ hr ro hro m1 w a B hR1 ht1 hd hB hn hfr) ?_
  rintro e a' w' ⟨rfl, m1', hs, ht2, hd2, hsz⟩
  refine ⟨rfl, hback _ _ _ _ hs, hd2, hsz, ?_, ?_⟩
  · intro t v htd hv
    obtain ⟨cv, g1, g2⟩ := hh.old t v htd hv
    by_cases hk : ∃ (i : Nat) (u : Value), L.keys[i]? = some t ∧ vs[i]? = some u
    · -- a temporary that is read and not assigned
      have hx : ∃ u, tm1.get t = some u ∧ flat u = true ∧ a.tmps[t]? = some u := by
        rw [← htm1]
        have : ∀ (l : List Tmp) (us : List Value) (X : T Value), (∃ (i : Nat) (u : Value), l[i]? = some t ∧ us[i]? = some u) → ∃ (i : Nat) (u : Value), l[i]? = some t ∧ us[i]? = some u ∧ (putT l us X).get t = some u := by
          intro l
          induction l with
          | nil => rintro us X ⟨i, u, h, _⟩; simp at h
          | cons x l ih =>
            intro us X hi
            cases us with
            | nil => obtain ⟨i, u, _, h⟩ := hi; simp at h
            | cons y us =>
              by_cases e : x = t
              · subst e
                exact ⟨0, y, rfl, rfl, by simp [putT, T.get_set]⟩
              · obtain ⟨i, u, h1, h2⟩ := hi
                cases i with
                | zero => simp at h1; exact absurd h1 e
                | succ i =>
                  obtain ⟨j, u', k1, k2, k3⟩ := ih us X ⟨i, u, by simpa using h1, by simpa using h2⟩
                  exact ⟨j + 1, u', by simpa using k1, by simpa using k2, by simp [putT, T.get_set, Ne.symm e, k3]⟩
        obtain ⟨i, u, k1, k2, k3⟩ := this _ _ ((forget (dstsOf L.c) tm).mapO fun v => some (ren ρ v)) hk
        exact ⟨u, k3, flatL_mem _ hfl u (List.mem_of_getElem? k2), hh.keys i t u k1 k2⟩
      obtain ⟨u, k1, k2, k3⟩ := hx
      have k4 : tm2'.get t = some u := by rw [hkeeps t htd]; exact k1
      obtain ⟨cv', k5, k6⟩ := ht2 t u k4
      have : cv' = u := by rw [← k6 _ (some0_ext m1'), conc_flat _ _ k2]
      subst this
      rw [g1] at k3; injection k3 with k3; subst k3
      exact ⟨cv, k5, g2⟩
    · have k1 : tm1.get t = some (ren ρ v) := by
        rw [← htm1]
        have : ∀ (l : List Tmp) (us : List Value) (X : T Value), (¬ ∃ (i : Nat) (u : Value), l[i]? = some t ∧ us[i]? = some u) → (putT l us X).get t = X.get t := by
          intro l
          induction l with
          | nil => intro us X _; rfl
          | cons x l ih =>
            intro us X hi
            cases us with
            | nil => rfl
            | cons y us =>
              have e : x ≠ t := fun e => hi ⟨0, y, by simp [e], by simp⟩
              simp only [putT, T.get_set]
              rw [if_neg (Ne.symm e)]
              exact ih us X fun ⟨i, u, h1, h2⟩ => hi ⟨i + 1, u, by simpa using h1, by simpa using h2⟩
        rw [this _ _ _ hk, T.get_mapO, forget_get2, if_neg htd, hv]
        rfl
      have k4 : tm2'.get t = some (ren ρ v) := by rw [hkeeps t htd]; exact k1
      obtain ⟨cv', k5, k6⟩ := ht2 t _ k4
      have hμ := some0_ext m1'
      have e1 : cv' = conc (fun i => some0 m1' (ρ i)) v := by rw [← k6 _ hμ, conc_ren]
      have e2 : conc (fun i => some0 m1' (ρ i)) v = cv := g2 _ (fun i l hi => hμ _ _ (hs.mono _ _ (by rw [hmρ]; exact hi)))
      rw [e2] at e1; subst e1
      exact ⟨cv', k5, g2⟩
  · intro t v htO hfv
    obtain ⟨cv', k5, k6⟩ := ht2 t v (hsub t v htO)
    have : cv' = v := by rw [← k6 _ (some0_ext m1'), conc_flat _ _ hfv]
    rw [← this]; exact k5

theorem LC.rounds (hmix : P.follows .mixedOrders = true) (hov : OvOk P ov) (hovm : OvMono ov) (hovi : OvIds ov) {st0 : St} (h3 : (Cx.of P).ng ≤ st0.ct) {L : LC} (hL : L.Good P ov st0) :
    ∀ vs, L.pre vs → ∃ k, ∀ ro, (ro = none ∨ noRF L.c = true) → ∀ m st tm w a B, hasIds st0.hp st.hp L.ids = true → Rep (Cx.of P) m st.G w → Head m tm L vs a → Marks B w a.defers → B ≤ w.heap.size → L.nt ≤ a.tmps.size →
      Code.roundsIn (FR ro) 0 P L.c (Post (Cx.of P) m st w a.tmps.size B (L.res vs).1 (putT L.outs (L.res vs).2 (forget (dstsOf L.c) tm)) st) k a w := by
  obtain ⟨meas, hok⟩ := hL.ok
  suffices H : ∀ j vs, meas vs < j → L.pre vs → ∃ k, ∀ ro, (ro = none ∨ noRF L.c = true) → ∀ m st tm w a B, hasIds st0.hp st.hp L.ids = true → Rep (Cx.of P) m st.G w → Head m tm L vs a → Marks B w a.defers → B ≤ w.heap.size → L.nt ≤ a.tmps.size →
      Code.roundsIn (FR ro) 0 P L.c (Post (Cx.of P) m st w a.tmps.size B (L.res vs).1 (putT L.outs (L.res vs).2 (forget (dstsOf L.c) tm)) st) k a w from
    fun vs hp => H _ vs (Nat.lt_succ_self _) hp
  intro j
  induction j with
  | zero => intro vs h; omega
  | succ j ih =>
    intro vs hj hp
    obtain ⟨hfl, hflr, hlen, n, ex, tmO, st', hrun, hcase⟩ := hok vs hp
    rcases hcase with ⟨rfl, vs', hrd, hp', hlt, hres⟩ | ⟨hne, hex, hrd⟩
    · obtain ⟨k, hk⟩ := ih vs' (by omega) hp'
      refine ⟨k + 1, fun ro hro m st tm w a B hids hR hh hd hB hn => ?_⟩
      rw [roundsIn_succ]
      refine wpIn_mono (LC.round hmix hov hovm hovi h3 hL hfl hrun hro hids hR hh hd hB hn) ?_
      rintro e a' w' ⟨rfl, hs, hd', hsz, hold, hnew⟩
      have hfl' : flatL vs' = true := (hok vs' hp').1
      have hh' : Head m tm L vs' a' := ⟨hold, fun i t v g1 g2 => hnew t v (readT_get _ _ _ hrd i t v g1 g2) (flatL_mem _ hfl' v (List.mem_of_getElem? g2))⟩
      refine rounds_mono ?_ _ _ _ (hk ro hro m st tm w' a' B hids hs.rep hh' hd' (by have := hs.fr.size; omega) (by omega))
      intro e a2 w2 hpost
      rw [hsz, hres] at hpost
      exact hpost.trans hs (Nat.le_refl _) (Nat.le_refl _)
    · refine ⟨1, fun ro hro m st tm w a B hids hR hh hd hB hn => ?_⟩
      rw [roundsIn_succ]
      refine wpIn_mono (LC.round hmix hov hovm hovi h3 hL hfl hrun hro hids hR hh hd hB hn) ?_
      rintro e a' w' ⟨rfl, hs, hd', hsz, hold, hnew⟩
      have fin : Post (Cx.of P) m st w a.tmps.size B (L.res vs).1 (putT L.outs (L.res vs).2 (forget (dstsOf L.c) tm)) st (exitOf ex) a' w' := by
        refine ⟨by rw [hex], m, hs, ?_, hd', hsz⟩
        intro t v ht
        rcases putT_get _ _ _ _ _ ht with ⟨i, g1, g2⟩ | ht
        · have hf := flatL_mem _ hflr v (List.mem_of_getElem? g2)
          exact ⟨v, hnew t v (readT_get _ _ _ hrd i t v g1 g2) hf, fun μ _ => conc_flat μ v hf⟩
        · rw [forget_get2] at ht
          split at ht
          · cases ht
          · rename_i htd; exact hold t v htd ht
      cases ex with
      | normal => exact absurd rfl hne
      | exit id => exact fin
      | ret => exact fin
      | goto l => exact fin

theorem findF_mem {f : Nat} : ∀ (l : List FC) (C : FC), findF f l = some C → C ∈ l ∧ C.f = f := by
  intro l
  induction l with
  | nil => intro C h; cases h
  | cons x l ih =>
    intro C h
    simp only [findF] at h
    split at h
    · rename_i hb
      simp only [Option.some.injEq] at h; subst h
      exact ⟨by simp, Nat.eq_of_beq_eq_true hb⟩
    · obtain ⟨h1, h2⟩ := ih C h
      exact ⟨by simp [h1], h2⟩
theorem findK_mem {k : Nat} : ∀ (l : List (Nat × LC)) (L : LC), findK k l = some L → ∃ x ∈ l, x.2 = L := by
  intro l
  induction l with
  | nil => intro L h; cases h
  | cons x l ih =>
    intro L h
    simp only [findK] at h
    split at h
    · simp only [Option.some.injEq] at h
      exact ⟨x, by simp, h⟩
    · obtain ⟨y, h1, h2⟩ := ih L h
      exact ⟨y, by simp [h1], h2⟩

theorem FC.go_some {st0 st st' : St} {C : FC} {args : List Value} {v : Value} (h : C.go st0 args st = some (v, st')) : hasIds st0.hp st.hp C.ids = true ∧ C.pre args ∧ v = C.res args ∧ st' = st := by
  unfold FC.go at h
  split at h <;> (try (cases h; done))
  rename_i hi
  split at h <;> (try (cases h; done))
  rename_i hp
  simp only [Option.some.injEq, Prod.mk.injEq] at h
  exact ⟨hi, hp, h.1.symm, h.2.symm⟩
theorem LC.go_some {st0 st st' : St} {L : LC} {nt : Nat} {tm tm' : T Value} {ex : Ex} (h : L.go st0 nt tm st = some (ex, tm', st')) : nt = L.nt ∧ hasIds st0.hp st.hp L.ids = true ∧ ∃ vs, readT tm L.keys = some vs ∧ L.pre vs ∧ ex = (L.res vs).1 ∧ tm' = putT L.outs (L.res vs).2 (forget (dstsOf L.c) tm) ∧ st' = st := by
  unfold LC.go at h
  split at h <;> (try (cases h; done))
  rename_i hi
  simp only [Bool.and_eq_true] at hi
  split at h <;> (try (cases h; done))
  rename_i vs hv
  split at h <;> (try (cases h; done))
  rename_i hp
  simp only [Option.some.injEq, Prod.mk.injEq] at h
  exact ⟨Nat.eq_of_beq_eq_true hi.1, hi.2, vs, hv, hp, h.1.symm, h.2.1.symm, h.2.2.symm⟩

theorem ovWith_mono (hovm : OvMono ov) {st0 : St} {fs : List FC} {ls : List (Nat × LC)} (hl : ∀ x ∈ ls, ∀ t ∈ x.2.outs, t ∈ dstsOf x.2.c) : OvMono (ovWith st0 fs ls ov) where
  fn := by
    intro f g args st v st' hg hr
    simp only [ovWith] at hg
    split at hg
    · simp only [Option.some.injEq] at hg; subst hg
      obtain ⟨_, _, _, rfl⟩ := FC.go_some hr
      exact Nat.le_refl _
    · exact hovm.fn f g args st v st' hg hr
  lp := by
    intro a g nt tm st ex tm' st' hg hr
    simp only [ovWith] at hg
    split at hg
    · split at hg <;> (try (cases hg; done))
      simp only [Option.some.injEq] at hg; subst hg
      obtain ⟨_, _, _, _, _, _, _, rfl⟩ := LC.go_some hr
      exact Nat.le_refl _
    · exact hovm.lp a g nt tm st ex tm' st' hg hr
  keeps := by
    intro a g nt tm st ex tm' st' hg hr t ht
    simp only [ovWith] at hg
    split at hg
    · rename_i L hL
      split at hg <;> (try (cases hg; done))
      rename_i hc
      simp only [Option.some.injEq] at hg; subst hg
      obtain ⟨_, _, vs, _, _, _, rfl, _⟩ := LC.go_some hr
      obtain ⟨x, hx, rfl⟩ := findK_mem _ _ hL
      have ho := hl x hx
      subst hc
      have : ∀ (l : List Tmp) (us : List Value) (X : T Value), t ∉ l → (putT l us X).get t = X.get t := by
        intro l
        induction l with
        | nil => intro us X _; rfl
        | cons y l ih =>
          intro us X hn
          cases us with
          | nil => rfl
          | cons u us =>
            simp only [List.mem_cons, not_or] at hn
            simp only [putT, T.get_set]
            rw [if_neg hn.1]
            exact ih us X hn.2
      rw [this _ _ _ (fun h => ht (ho t h)), forget_get2, if_neg ht]
    · exact hovm.keeps a g nt tm st ex tm' st' hg hr t ht

theorem ovWith_ids (hovi : OvIds ov) {st0 : St} {fs : List FC} {ls : List (Nat × LC)} : OvIds (ovWith st0 fs ls ov) where
  fn := by
    intro f g args st v st' hg hr
    simp only [ovWith] at hg
    split at hg
    · simp only [Option.some.injEq] at hg; subst hg
      obtain ⟨_, _, _, rfl⟩ := FC.go_some hr
      exact Ids.refl _
    · exact hovi.fn f g args st v st' hg hr
  lp := by
    intro a g nt tm st ex tm' st' hg hr
    simp only [ovWith] at hg
    split at hg
    · split at hg <;> (try (cases hg; done))
      simp only [Option.some.injEq] at hg; subst hg
      obtain ⟨_, _, _, _, _, _, _, rfl⟩ := LC.go_some hr
      exact Ids.refl _
    · exact hovi.lp a g nt tm st ex tm' st' hg hr

theorem ovWith_ok (hmix : P.follows .mixedOrders = true) (hov : OvOk P ov) (hovm : OvMono ov) (hovi : OvIds ov) {st0 : St} (h3 : (Cx.of P).ng ≤ st0.ct) {fs : List FC} {ls : List (Nat × LC)}
    (hf : ∀ C ∈ fs, C.Good P ov st0) (hl : ∀ x ∈ ls, x.2.Good P ov st0) : OvOk P (ovWith st0 fs ls ov) where
  fn := by
    intro f g args st v st' hg hr m w cargs hR ha hfr
    simp only [ovWith] at hg
    split at hg
    · rename_i C hC
      simp only [Option.some.injEq] at hg; subst hg
      obtain ⟨h1, h2, rfl, rfl⟩ := FC.go_some hr
      obtain ⟨hm, rfl⟩ := findF_mem _ _ hC
      exact FC.sound hmix hov hovm hovi h3 (hf C hm) h2 h1 hR ha
    · exact hov.fn f g args st v st' hg hr m w cargs hR ha hfr
  lp := by
    intro c g nt tm st ex tm' st' hg hr
    simp only [ovWith] at hg
    split at hg
    · rename_i L hL
      split at hg <;> (try (cases hg; done))
      rename_i hc
      simp only [Option.some.injEq] at hg; subst hg
      obtain ⟨rfl, h1, vs, hv, h2, rfl, rfl, rfl⟩ := LC.go_some hr
      obtain ⟨x, hx, rfl⟩ := findK_mem _ _ hL
      subst hc
      obtain ⟨k, hk⟩ := LC.rounds hmix hov hovm hovi h3 (hl x hx) vs h2
      refine ⟨k, fun ro hro m w a B hR ht hd hB hn hfr => hk ro hro m st' tm w a B h1 hR ?_ hd hB hn⟩
      obtain ⟨meas, hok⟩ := (hl x hx).ok
      have hfl := (hok vs h2).1
      refine ⟨fun t v _ htv => ht t v htv, fun i t v g1 g2 => ?_⟩
      obtain ⟨cv, k1, k2⟩ := ht t v (readT_get _ _ _ hv i t v g1 g2)
      have hfv := flatL_mem _ hfl v (List.mem_of_getElem? g2)
      rw [k1, ← k2 _ (some0_ext m), conc_flat _ _ hfv]
    · exact hov.lp c g nt tm st ex tm' st' hg hr

end
end Go.Ai

/-! One way through a function or through a round of a loop, run by the interpreter for open values. -/
namespace Go.Ai
open Go
noncomputable section

theorem int_beq_true {a b : Int} (h : (a == b) = true) : a = b := eq_of_beq h
theorem int_beq_false {a b : Int} (h : (a == b) = false) : a ≠ b := by intro e; subst e; simp at h
theorem int_bne_true {a b : Int} (h : (a != b) = true) : a ≠ b := by intro e; subst e; simp at h
theorem int_bne_false {a b : Int} (h : (a != b) = false) : a = b := by simpa using h
theorem not_dec_true {p : Prop} [Decidable p] (h : (!decide p) = true) : ¬ p := by simpa using h
theorem not_dec_false {p : Prop} [Decidable p] (h : (!decide p) = false) : p := by simpa using h
theorem byteAt_range (s : ByteArray) (i : Nat) : 0 ≤ byteAt s i ∧ byteAt s i ≤ 255 := by
  unfold byteAt
  split
  · rename_i b _
    have := b.toNat_lt
    omega
  · omega

def outF (x : R (Value × St)) : Option (Value × List Prop) := match x with
  | .ok q o => some (q.1, o.asm)
  | _ => none
/-- how a round ends, what it leaves in the temporaries that are asked for -/
def outL (keys outs : List Tmp) (x : R (Ex × T Value × St)) : Option (Ex × List Value × List Prop) := match x with
  | .ok q o => match q.1 with
    | .normal => match readT q.2.1 keys with
      | some vs => some (.normal, vs, o.asm)
      | none => none
    | e => match readT q.2.1 outs with
      | some vs => some (e, vs, o.asm)
      | none => none
  | _ => none

section
variable {P : Program} {ov : Ov} {ovO : OvO}

theorem path_call (hr : OvRef ov ovO) {n f : Nat} {args : List Value} {st : St} {toks : List An} {v : Value} {asm : List Prop} (h : outF (callO (Cx.of P) ov ovO n f args st ⟨toks, []⟩) = some (v, asm)) (ha : Holds asm) :
    ∃ st', call (Cx.of P) ov n f args st = some (v, st') := by
  cases hc : callO (Cx.of P) ov ovO n f args st ⟨toks, []⟩ with
  | ok q o =>
    rw [hc] at h
    simp only [outF, Option.some.injEq, Prod.mk.injEq] at h
    obtain ⟨rfl, rfl⟩ := h
    exact ⟨q.2, (callO_ok hr _ _ _ hc ha).2⟩
  | fail n => rw [hc] at h; cases h
  | ask b k => rw [hc] at h; cases h
  | askI b k => rw [hc] at h; cases h

/-- a round that goes on -/
theorem path_next (hr : OvRef ov ovO) {n : Nat} {c : Code} {nt : Nat} {keys outs : List Tmp} {vs : List Value} {st : St} {toks : List An} {ws : List Value} {asm : List Prop}
    (h : outL keys outs (runO (Cx.of P) ov ovO n c nt (putT keys vs .nil) st ⟨toks, []⟩) = some (.normal, ws, asm)) (ha : Holds asm) :
    ∃ n ex tmO st', (∀ tm2, Sub (putT keys vs .nil) tm2 → ∃ tm2', run (Cx.of P) ov n c nt tm2 st = some (ex, tm2', st') ∧ Sub tmO tm2') ∧ ex = .normal ∧ readT tmO keys = some ws := by
  cases hc : runO (Cx.of P) ov ovO n c nt (putT keys vs .nil) st ⟨toks, []⟩ with
  | ok q o =>
    obtain ⟨ex, tmO, st'⟩ := q
    rw [hc] at h
    have hs := (fun (hh : Holds o.asm) => (runO_ok hr n c nt _ _ _ _ _ hc hh).2)
    cases ex with
    | normal =>
      simp only [outL] at h
      split at h <;> (try (cases h; done))
      rename_i us hu
      simp only [Option.some.injEq, Prod.mk.injEq, true_and] at h
      obtain ⟨rfl, rfl⟩ := h
      exact ⟨n, .normal, tmO, st', hs ha, rfl, hu⟩
    | _ =>
      simp only [outL] at h
      split at h <;> (cases h; done)
  | fail n => rw [hc] at h; cases h
  | ask b k => rw [hc] at h; cases h
  | askI b k => rw [hc] at h; cases h

/-- a round that leaves -/
theorem path_exit (hr : OvRef ov ovO) {n : Nat} {c : Code} {nt : Nat} {keys outs : List Tmp} {vs : List Value} {st : St} {toks : List An} {ex : Ex} {ws : List Value} {asm : List Prop} (hne : ex ≠ .normal)
    (h : outL keys outs (runO (Cx.of P) ov ovO n c nt (putT keys vs .nil) st ⟨toks, []⟩) = some (ex, ws, asm)) (ha : Holds asm) :
    ∃ n ex' tmO st', (∀ tm2, Sub (putT keys vs .nil) tm2 → ∃ tm2', run (Cx.of P) ov n c nt tm2 st = some (ex', tm2', st') ∧ Sub tmO tm2') ∧ ex' = ex ∧ readT tmO outs = some ws := by
  cases hc : runO (Cx.of P) ov ovO n c nt (putT keys vs .nil) st ⟨toks, []⟩ with
  | ok q o =>
    obtain ⟨ex1, tmO, st'⟩ := q
    rw [hc] at h
    have hs := (fun (hh : Holds o.asm) => (runO_ok hr n c nt _ _ _ _ _ hc hh).2)
    cases ex1 with
    | normal =>
      simp only [outL] at h
      split at h <;> (try (cases h; done))
      simp only [Option.some.injEq, Prod.mk.injEq] at h
      exact absurd h.1.symm hne
    | _ =>
      simp only [outL] at h
      split at h <;> (try (cases h; done))
      rename_i us hu
      simp only [Option.some.injEq, Prod.mk.injEq] at h
      obtain ⟨rfl, rfl, rfl⟩ := h
      exact ⟨n, _, tmO, st', hs ha, rfl, hu⟩
  | fail n => rw [hc] at h; cases h
  | ask b k => rw [hc] at h; cases h
  | askI b k => rw [hc] at h; cases h

end
end
end Go.Ai

/-! A law with arguments that hold no address. -/
namespace Go.Ai
open Go Go.ChangeShapes Go.WideShapes Go.RowKit Go.ChangeMaps
section
variable {P : Program}

theorem open_calls (hmix : P.follows .mixedOrders = true) {ov : Ov} (hov : OvOk P ov) (hovm : OvMono ov) (hovi : OvIds ov) {nm : List (String × TypeId)} (h2 : nm.all (nameOk P) = true) {fs : List Nat} {laid : List (String × DataW Unit)} {st : St}
    (hst : laidStart P nm fs laid = some st) {n f : Nat} {args : List Value} {st' : St} (hfl : flatL args = true) (hrun : call (Cx.of P) ov n f args st = some (.bool true, st'))
    {fn : Func} (hfn : P.funcs[f]? = some fn) (hb : fn.body.isSome = true) (hnm : (fn.name == "runtime.NumGoroutine") = false) {W : World} (hl : laidMetH P laid W) :
    Calls P f args.toArray W fun e W' => e = .returned (.bool true) ∧ Stays W W' := by
  obtain ⟨m, hR, hfr, hro⟩ := laidStart_rep h2 hst hl
  have hfx : ∀ μ : Nat → Loc, args.map (conc μ) = args := fun μ => by rw [← concL_eq]; exact concL_flat μ _ hfl
  have hc := call_sound hmix hov hovm hovi hrun hR (cargs := args) (fun μ _ => hfx μ) (fun i hi _ => hfr i hi)
  have hent : (callFunc f args.toArray).run P W = .ok (.enter f args.toArray) W := by
    have h1 : fn.name ≠ "runtime.NumGoroutine" := by simpa using hnm
    obtain ⟨c, hc⟩ := Option.isSome_iff_exists.1 hb
    simp [callFunc, hfn, h1, hc]
  rcases hc with ⟨v, w', h4, _⟩ | ⟨_, h5⟩
  · rw [hent] at h4; cases h4
  · refine h5.mono fun e W' ⟨v, he, m', hs, hv⟩ => ?_
    have : v = .bool true := (hv _ (some0_ext m')).symm
    subst this
    exact ⟨he, hs.stays hro⟩

variable {H : Type} {enc : TypeId × Value → H}

theorem open_lifted {C : Checked} {os : Os} (started : os.Started) {f : FuncId} {fn : Func} {s : ChangeSpec} {laid : List (String × DataW Unit)} {tb : TypeId} {apart fresh : Bool}
    (own : ownKnob C.prog.godebug = none) (noInit : C.prog.inits.idxOf? f = none) (hfn : C.prog.funcs[f]? = some fn)
    (hr : fn.resultTypes = #[tb]) (ht : C.prog.underlying tb = some .bool) (hv : s.vars = []) (A : Array Value → Prop)
    (harg : ∀ (W : World) (base : Nat) (args : Array Value) (ds : List (DataW H)) (p : List MemPlace), (∀ (j : Nat) t v, fn.params[j]? = some t → args[j]? = some v → Value.okWide C.prog W .any base t v) →
      DataW.TrodAll enc C.prog W 0 (fun _ => true) true fn.params.toList args.toList ds p → A args ∧ p = [] ∧ s.fn H ds = { results := [.lit (.bool true)], args := ds } ∧ ∀ (W' : World) (sp : Nat → Bool), DataW.TrodAll enc C.prog W' 0 sp true fn.params.toList args.toList ds [])
    (hcalls : ∀ W args, A args → laidMetH C.prog laid W → Calls C.prog f args W fun e W' => e = .returned (.bool true) ∧ Stays W W')
    (witness : ∃ (w : World) (tape : Tape) (i : Input), w.os = os ∧ (w.forCall tape i).Shaped C.prog ∧ i.vars = [] ∧ Input.okWide C.prog (w.forCall tape i) .any w.heap.size f i ∧
      ((s.pre enc C.prog fn [] apart (w.forCall tape i).memory i.args ∧ laidMetH C.prog laid (w.forCall tape i).memory) ∧ sizedMet enc C.prog fn (OpenSpec.ofChange s) apart (w.forCall tape i).memory i.args) ∧ ({} : Assume).holds C.prog (lone (Frame.enter C.prog f i.args .normal) [] (w.forCall tape i))) :
    ReturnsInHanded {} C os f .any (fun w args => (s.pre enc C.prog fn [] apart w args ∧ laidMetH C.prog laid w) ∧ sizedMet enc C.prog fn (OpenSpec.ofChange s) apart w args) (s.post enc C.prog fn apart fresh false false) := by
  refine returnsInHanded_of_change_and (C := C) (X := fun w _ => laidMetH C.prog laid w) (fun _ _ _ hh h => h.of_heap hh) own started noInit hfn witness ?_
  intro W base args ds gs before hval0 hW _ _ hL _
  have hW' := hW
  obtain ⟨p, q, hA, hV, rfl, hfz, hnd⟩ := hW
  rw [hv] at hV
  obtain ⟨rfl, rfl⟩ := trodVars_none hV
  obtain ⟨hAa, rfl, hs, hagain⟩ := harg W base args ds p hval0 hA
  refine (hcalls _ _ hAa hL).mono fun e W' ⟨he, hst⟩ => ?_
  subst he
  have hs' : s.fn H (ds ++ []) = { results := [.lit (.bool true)], args := ds } := by rw [List.append_nil]; exact hs
  refine ⟨_, rfl, post_stays (pa := []) (pv := []) hW' (fun b sp hd => ?_) (fun sp _ => ?_) (fun _ _ => ?_) rfl hst (ok_one hr rfl (okWide_bool_mk ht _))⟩
  · rw [hs', hr]
    exact trodAll_mk1 (shut_bool ht true)
  · rw [hs']
    exact hagain W' sp
  · rw [hs', hv]
    rfl

/-! ### arguments -/
section
variable {w : World} {base : Nat} {spare : Nat → Bool} {held : Bool}
theorem arg_int {r : Reach} {b0 : Nat} {t : TypeId} {k : IntKind} {v : Value} {d : DataW H} {ps : List MemPlace} (ht : P.underlying t = some (.int k)) (hval : Value.okWide P w r b0 t v) (hd : DataW.Trod enc P w base spare held t v d ps) :
    ∃ n, v = .int k n ∧ ps = [] ∧ (k.min ≤ n ∧ n ≤ k.max) ∧ ∀ (w' : World) (base' : Nat) (sp' : Nat → Bool) (held' : Bool), DataW.Trod enc P w' base' sp' held' t v d [] := by
  obtain ⟨n, rfl, rfl, rfl, hw⟩ := open_int ht hval hd
  refine ⟨n, rfl, rfl, ?_, fun w' base' sp' held' => shut_int ht hw⟩
  simpa [Lit.wf] using hw
theorem arg_string {r : Reach} {b0 : Nat} {t : TypeId} {v : Value} {d : DataW H} {ps : List MemPlace} (ht : P.underlying t = some .string) (hval : Value.okWide P w r b0 t v) (hd : DataW.Trod enc P w base spare held t v d ps) :
    ∃ s, v = .string s ∧ ps = [] ∧ s.size ≤ maxLen ∧ ∀ (w' : World) (base' : Nat) (sp' : Nat → Bool) (held' : Bool), DataW.Trod enc P w' base' sp' held' t v d [] := by
  obtain ⟨s, rfl, rfl, rfl, hw⟩ := open_string ht hval hd
  exact ⟨s, rfl, rfl, hw, fun w' base' sp' held' => shut_string ht hw⟩
end
theorem all_one {ts : List TypeId} {t : TypeId} (e : ts = [t]) {v : Value} {d : DataW H} (h : ∀ (w' : World) (base' : Nat) (sp' : Nat → Bool) (held' : Bool), DataW.Trod enc P w' base' sp' held' t v d []) (W' : World) (sp : Nat → Bool) : DataW.TrodAll enc P W' 0 sp true ts [v] [d] [] := by
  subst e; exact trodAll_mk1 (h W' 0 sp true)
theorem all_two {t t' : TypeId} {v v' : Value} {d d' : DataW H} (h : ∀ (w' : World) (base' : Nat) (sp' : Nat → Bool) (held' : Bool), DataW.Trod enc P w' base' sp' held' t v d []) (h' : ∀ (w' : World) (base' : Nat) (sp' : Nat → Bool) (held' : Bool), DataW.Trod enc P w' base' sp' held' t' v' d' []) (W' : World) (sp : Nat → Bool) : DataW.TrodAll enc P W' 0 sp true [t, t'] [v, v'] [d, d'] [] := by
  simpa using trodAll_mk2 (h W' 0 sp true) (h' W' 0 sp true)

end
end Go.Ai
