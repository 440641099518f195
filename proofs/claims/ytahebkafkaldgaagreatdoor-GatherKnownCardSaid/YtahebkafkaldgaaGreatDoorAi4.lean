/- The abstract interpreter and its soundness, part 4 of 4: by an AI agent. -/
import Derived.Test.YtahebkafkaldgaaGreatDoorAi3
import Derived.ProofKit
import Derived.LaidMore
import Derived.LaidHandle
import Derived.Stop.Joined

/-! The same interpreter, cut so that the kernel goes through it faster. -/
namespace Go.Ai
open Go
noncomputable section

/-! ### strings -/
theorem toListLoop_data (b : ByteArray) : ∀ (n i : Nat) (r : List UInt8), b.size - i = n → ByteArray.toList.loop b i r = r.reverse ++ b.data.toList.drop i := by
  intro n
  induction n with
  | zero =>
    intro i r h
    rw [ByteArray.toList.loop]
    rw [if_neg (by omega)]
    have : b.data.toList.length ≤ i := by
      have : b.data.toList.length = b.size := by rw [Array.length_toList]; rfl
      omega
    rw [List.drop_of_length_le this]; simp
  | succ n ih =>
    intro i r h
    rw [ByteArray.toList.loop]
    rw [if_pos (by omega), ih (i + 1) _ (by omega)]
    have hlt : i < b.data.toList.length := by
      have : b.data.toList.length = b.size := by rw [Array.length_toList]; rfl
      omega
    rw [List.drop_eq_getElem_cons hlt]
    have hget : b.get! i = b.data.toList[i] := by
      have h2 : i < b.data.size := by simpa using hlt
      show b.data[i]! = _
      rw [getElem!_pos b.data i h2]
      simp
    rw [hget]; simp
theorem toList_data (b : ByteArray) : b.toList = b.data.toList := by
  show ByteArray.toList.loop b 0 [] = _
  rw [toListLoop_data b _ 0 [] rfl]; simp

def beqBytes : List UInt8 → List UInt8 → Bool
  | [], [] => true
  | a :: x, b :: y => match Nat.beq a.toNat b.toNat with
    | true => beqBytes x y
    | false => false
  | _, _ => false
theorem beqBytes_eq : ∀ (x y : List UInt8), beqBytes x y = (x == y)
  | [], [] => rfl
  | [], _ :: _ => rfl
  | _ :: _, [] => rfl
  | a :: x, b :: y => by
    simp only [beqBytes]
    cases h : Nat.beq a.toNat b.toNat with
    | true =>
      have : a = b := UInt8.toNat_inj.1 (Nat.eq_of_beq_eq_true h)
      subst this
      simp [beqBytes_eq x y]
    | false =>
      have hne : a ≠ b := by rintro rfl; simp at h
      simp [hne]

/-! ### pure operations -/
def intF (op : BinOp) (k : IntKind) (x : Int) (k' : IntKind) (y : Int) : Option Value :=
  match op with
  | .add => match decide (k = k') with | true => some (.int k (k.wrap (x + y))) | false => none
  | .sub => match decide (k = k') with | true => some (.int k (k.wrap (x - y))) | false => none
  | .mul => match decide (k = k') with | true => some (.int k (k.wrap (x * y))) | false => none
  | .eql => match decide (k = k') with | true => some (.bool (decide (x = y))) | false => none
  | .neq => match decide (k = k') with | true => some (.bool (!decide (x = y))) | false => none
  | .lss => match decide (k = k') with | true => some (.bool (decide (x < y))) | false => none
  | .leq => match decide (k = k') with | true => some (.bool (decide (x ≤ y))) | false => none
  | .gtr => match decide (k = k') with | true => some (.bool (decide (x > y))) | false => none
  | .geq => match decide (k = k') with | true => some (.bool (decide (x ≥ y))) | false => none
  | .shl => match decide (y < 0) with | true => none | false => some (.int k (k.wrap (x * 2 ^ min y.toNat k.bits)))
  | .shr => match decide (y < 0) with | true => none | false => some (.int k (x.fdiv (2 ^ min y.toNat k.bits)))
  | .and => match decide (k = k') with | true => some (.int k (k.wrap (BitVec.ofInt k.bits x &&& BitVec.ofInt k.bits y).toNat)) | false => none
  | .or => match decide (k = k') with | true => some (.int k (k.wrap (BitVec.ofInt k.bits x ||| BitVec.ofInt k.bits y).toNat)) | false => none
  | .xor => match decide (k = k') with | true => some (.int k (k.wrap (BitVec.ofInt k.bits x ^^^ BitVec.ofInt k.bits y).toNat)) | false => none
  | .andNot => match decide (k = k') with | true => some (.int k (k.wrap (BitVec.ofInt k.bits x &&& ~~~BitVec.ofInt k.bits y).toNat)) | false => none
  | .quo => match decide (k = k') with
    | true => match decide (y = 0) with | true => none | false => some (.int k (k.wrap (x.tdiv y)))
    | false => none
  | .rem => match decide (k = k') with
    | true => match decide (y = 0) with | true => none | false => some (.int k (x.tmod y))
    | false => none

def slowBin (cx : Cx) (op : BinOp) (t : TypeId) (a b : Value) (x y : Operand) : Option Value :=
  match binOpA cx op t a b x y with
  | some v => some v
  | none => eqNilA cx op t a b
def strF (cx : Cx) (op : BinOp) (t : TypeId) (s u : ByteArray) (x y : Operand) : Option Value :=
  match op with
  | .eql => some (.bool (beqBytes s.data.toList u.data.toList))
  | .neq => some (.bool (!beqBytes s.data.toList u.data.toList))
  | _ => slowBin cx op t (.string s) (.string u) x y
def binF (cx : Cx) (op : BinOp) (t : TypeId) (a b : Value) (x y : Operand) : Option Value :=
  match a, b with
  | .int k n, .int k' m => intF op k n k' m
  | .string s, .string u => strF cx op t s u x y
  | _, _ => slowBin cx op t a b x y

theorem flat_int (k : IntKind) (n : Int) : flat (.int k n) = true := by simp [flat]
theorem flat_bool (b : Bool) : flat (.bool b) = true := by simp [flat]

theorem quietFlat_pure {P : Program} {v : Value} (h : flat v = true) : quietFlat P (.pure v) = some v := by
  simp [quietFlat, quiet, h]

theorem quiet_panic (P : Program) (s : String) : quietFlat P (runtimePanic (α := Value) (.error s)) = none := rfl

theorem eqNil_int {cx : Cx} {op : BinOp} {t : TypeId} {k k' : IntKind} {n m : Int} : eqNilA cx op t (.int k n) (.int k' m) = none := by
  unfold eqNilA
  cases cx.desc t with
  | none => rfl
  | some d => cases d <;> rfl

theorem intF_eq {cx : Cx} {op : BinOp} {t : TypeId} {k k' : IntKind} {n m : Int} {x y : Operand} : intF op k n k' m = slowBin cx op t (.int k n) (.int k' m) x y := by
  have slow : ∀ {r : Option Value}, binOpA cx op t (.int k n) (.int k' m) x y = r → slowBin cx op t (.int k n) (.int k' m) x y = r := by
    intro r h
    unfold slowBin
    rw [h]
    cases r with
    | none => exact eqNil_int
    | some v => rfl
  refine (slow ?_).symm
  by_cases hk : k = k'
  · subst hk
    cases op
    case add => simp [binOpA, binInt, intF]
    case sub => simp [binOpA, binInt, intF]
    case mul => simp [binOpA, binInt, intF]
    case eql => simp [binOpA, binInt, intF]; rfl
    case neq => simp [binOpA, binInt, intF, bne]; rfl
    case lss => simp [binOpA, binInt, intF]
    case leq => simp [binOpA, binInt, intF]
    case gtr => simp [binOpA, binInt, intF]
    case geq => simp [binOpA, binInt, intF]
    case shl =>
      simp only [binOpA, binOp, Op.shift, intF]
      by_cases hy : m < 0
      · simp only [hy, if_true, decide_true]; exact quiet_panic _ _
      · simp only [hy, if_false, decide_false]; exact quietFlat_pure (flat_int _ _)
    case shr =>
      simp only [binOpA, binOp, Op.shift, intF]
      by_cases hy : m < 0
      · simp only [hy, if_true, decide_true]; exact quiet_panic _ _
      · simp only [hy, if_false, decide_false]; exact quietFlat_pure (flat_int _ _)
    case and => simp only [binOpA, binOp, Op.intBits, intF, ne_eq, not_true_eq_false, if_false, decide_true]; exact quietFlat_pure (flat_int _ _)
    case or => simp only [binOpA, binOp, Op.intBits, intF, ne_eq, not_true_eq_false, if_false, decide_true]; exact quietFlat_pure (flat_int _ _)
    case xor => simp only [binOpA, binOp, Op.intBits, intF, ne_eq, not_true_eq_false, if_false, decide_true]; exact quietFlat_pure (flat_int _ _)
    case andNot => simp only [binOpA, binOp, Op.intBits, intF, ne_eq, not_true_eq_false, if_false, decide_true]; exact quietFlat_pure (flat_int _ _)
    case quo =>
      simp only [binOpA, binOp, Op.intDiv, intF, ne_eq, not_true_eq_false, if_false, decide_true]
      by_cases hy : m = 0
      · simp only [hy, if_true, decide_true]; exact quiet_panic _ _
      · simp only [hy, if_false, decide_false]; exact quietFlat_pure (flat_int _ _)
    case rem =>
      simp only [binOpA, binOp, Op.intDiv, intF, ne_eq, not_true_eq_false, if_false, decide_true]
      by_cases hy : m = 0
      · simp only [hy, if_true, decide_true]; exact quiet_panic _ _
      · simp only [hy, if_false, decide_false]; exact quietFlat_pure (flat_int _ _)
  · cases op
    case shl =>
      simp only [binOpA, binOp, Op.shift, intF]
      by_cases hy : m < 0
      · simp only [hy, if_true, decide_true]; exact quiet_panic _ _
      · simp only [hy, if_false, decide_false]; exact quietFlat_pure (flat_int _ _)
    case shr =>
      simp only [binOpA, binOp, Op.shift, intF]
      by_cases hy : m < 0
      · simp only [hy, if_true, decide_true]; exact quiet_panic _ _
      · simp only [hy, if_false, decide_false]; exact quietFlat_pure (flat_int _ _)
    all_goals simp [binOpA, intF, hk, binOp, quietFlat, quiet, stuck]

theorem strF_eq {cx : Cx} {op : BinOp} {t : TypeId} {s u : ByteArray} {x y : Operand} : strF cx op t s u x y = slowBin cx op t (.string s) (.string u) x y := by
  have e : ∀ (op : BinOp), (do eqGuard op t x y (.string s) (.string u); binOp op t (.string s) (.string u) : Sem Value) = binOp op t (.string s) (.string u) := by
    intro op
    cases op <;> rfl
  cases op <;> try rfl
  · show some _ = slowBin cx .eql t (.string s) (.string u) x y
    unfold slowBin binOpA
    simp only [flat, Bool.and_true, e]
    have : binOp .eql t (.string s) (.string u) = .pure (.bool (s.toList == u.toList)) := rfl
    rw [this, quietFlat_pure (flat_bool _), beqBytes_eq, toList_data, toList_data]
  · show some _ = slowBin cx .neq t (.string s) (.string u) x y
    unfold slowBin binOpA
    simp only [flat, Bool.and_true, e]
    have : binOp .neq t (.string s) (.string u) = .pure (.bool !(s.toList == u.toList)) := rfl
    rw [this, quietFlat_pure (flat_bool _), beqBytes_eq, toList_data, toList_data]

theorem binF_eq {cx : Cx} {op : BinOp} {t : TypeId} {a b : Value} {x y : Operand} : binF cx op t a b x y = slowBin cx op t a b x y := by
  unfold binF
  split
  · exact intF_eq
  · exact strF_eq
  · rfl

end
end Go.Ai

/-! The same interpreter, cut so that the kernel goes through it faster: operations, code. -/
namespace Go.Ai
open Go
noncomputable section

def fPick (cx : Cx) (tm : T Value) (c a b : Operand) : Option Value := match ev cx tm c with
  | some (.bool true) => ev cx tm a
  | some (.bool false) => ev cx tm b
  | _ => none
def fNil (cx : Cx) (tm : T Value) (x : Operand) : Option Value := match ev cx tm x with
  | some (.pointer (some a)) => some (.pointer (some a))
  | some (.func (.func f) a b) => some (.func (.func f) a b)
  | some (.iface t v) => some (.iface t v)
  | _ => none
def fBin (cx : Cx) (tm : T Value) (op : BinOp) (t : TypeId) (x y : Operand) : Option Value := match ev cx tm x with
  | some a => match ev cx tm y with
    | some b => binF cx op t a b x y
    | none => none
  | none => none
def fUn (cx : Cx) (tm : T Value) (op : UnOp) (x : Operand) : Option Value := match ev cx tm x with
  | some (.bool b) => match op with
    | .not => some (.bool (!b))
    | _ => none
  | some v => match flat v with
    | true => quietFlat cx.P (Op.unary op v)
    | false => none
  | none => none
def fConv (cx : Cx) (tm : T Value) (s d : TypeId) (x : Operand) : Option Value := match ev cx tm x with
  | some (.int k n) => match cx.desc d, cx.desc s with
    | some (.int k'), some (.int _) => some (.int k' (k'.wrap n))
    | _, _ => quietFlat cx.P (convert s d (.int k n))
  | some (.string b) => match cx.desc d, cx.desc s with
    | some .string, some .string => some (.string b)
    | _, _ => none
  | some v => match flat v with
    | true => quietFlat cx.P (convert s d v)
    | false => none
  | none => none
def fIface (cx : Cx) (tm : T Value) (t : TypeId) (x : Operand) : Option Value := match cx.desc t with
  | some (.interface _) => none
  | some _ => match ev cx tm x with
    | some v => some (.iface t v)
    | none => none
  | none => none
def fFunc (cx : Cx) (tm : T Value) (fn : Fn) (first captured : Array Operand) : Option Value := match evs cx tm first.toList, evs cx tm captured.toList with
  | some a, some b => match fn with
    | .yield _ => none
    | _ => some (.func fn ⟨a⟩ ⟨b⟩)
  | _, _ => none
def fField (cx : Cx) (tm : T Value) (t : TypeId) (x : Operand) (f : Nat) : Option Value := match ev cx tm x with
  | some (.agg cs) => match cx.desc t with
    | some (.struct fields) => match fields[f]? with
      | some fd => partA cx fd.type cs.toList fd.offset
      | none => none
    | _ => none
  | _ => none
def fIndex (cx : Cx) (tm : T Value) (t : TypeId) (x i : Operand) : Option Value := match ev cx tm x with
  | some a => match ev cx tm i with
    | some b => indexA cx t a b
    | none => none
  | none => none
def fExtract (cx : Cx) (tm : T Value) (x : Operand) (i : Nat) : Option Value := match ev cx tm x with
  | some (.tuple vs) => vs.toList[i]?
  | _ => none
def fFieldAddr (cx : Cx) (tm : T Value) (t : TypeId) (x : Operand) (f : Nat) : Option Value := match ev cx tm x with
  | some (.pointer (some a)) => match cx.desc t with
    | some (.struct fields) => match fields[f]? with
      | some fd => match cx.size fd.type with
        | some (_ + 1) => some (.pointer (some (a.add fd.offset)))
        | _ => none
      | none => none
    | _ => none
  | _ => none
def fIndexAddr (cx : Cx) (tm : T Value) (t : TypeId) (x i : Operand) : Option Value := match ev cx tm x with
  | some a => match ev cx tm i with
    | some b => indexAddrA cx t a b
    | none => none
  | none => none
def fSlice (cx : Cx) (tm : T Value) (t : TypeId) (x : Operand) (lo hi mx : Option Operand) : Option Value := match mx with
  | some _ => none
  | none => match ev cx tm x with
    | some a => match opt cx tm lo with
      | some l => match opt cx tm hi with
        | some h => sliceP cx t a l h
        | none => none
      | none => none
    | none => none
def fAssert (cx : Cx) (tm : T Value) (x : Operand) (t : TypeId) (ok : Bool) : Option Value := match ev cx tm x with
  | some v => typeAssertA cx v t ok
  | none => none
def fBuild (cx : Cx) (tm : T Value) (t : TypeId) (parts : Array (Nat × Operand)) : Option Value := match evParts cx tm parts.toList with
  | some ps => buildA cx t ps
  | none => none

/-- pureOp -/
def pureF (cx : Cx) (tm : T Value) : Op → Option Value
  | .move x => ev cx tm x
  | .assign x => ev cx tm x
  | .pick c a b => fPick cx tm c a b
  | .nilCheck x => fNil cx tm x
  | .binOp op t x y _ => fBin cx tm op t x y
  | .unOp op _ x => fUn cx tm op x
  | .convert s d x => fConv cx tm s d x
  | .makeInterface t x => fIface cx tm t x
  | .makeFunc fn first captured => fFunc cx tm fn first captured
  | .field t x f => fField cx tm t x f
  | .index t x i => fIndex cx tm t x i
  | .extract x i => fExtract cx tm x i
  | .fieldAddr t x f => fFieldAddr cx tm t x f
  | .indexAddr t x i => fIndexAddr cx tm t x i
  | .slice t x lo hi mx => fSlice cx tm t x lo hi mx
  | .typeAssert x _ t ok => fAssert cx tm x t ok
  | .build t parts => fBuild cx tm t parts
  | .call c => pureCall cx tm c
  | _ => none

theorem pureF_eq (cx : Cx) (tm : T Value) (op : Op) : pureF cx tm op = pureOp cx tm op := by
  cases op <;> try rfl
  case binOp op t x y u =>
    simp only [pureF, pureOp, fBin]
    cases ev cx tm x with
    | none => rfl
    | some a =>
      cases ev cx tm y with
      | none => rfl
      | some b => simp only [binF_eq]; rfl

/-! reading -/
def rLoad (cx : Cx) (tm : T Value) (st : St) (t : TypeId) (x : Operand) : Option Value := match ev cx tm x with
  | some (.pointer (some a)) => match cx.isAgg t, cx.size t with
    | some true, some n => match readCells st a n with
      | some l => some (.agg ⟨l⟩)
      | none => none
    | some false, some _ => match readCells st a 1 with
      | some [v] => some v
      | _ => none
    | _, _ => none
  | _ => none
def readF (cx : Cx) (tm : T Value) (st : St) (op : Op) : Option Value :=
  match op with
  | .load t x => rLoad cx tm st t x
  | op => readOp cx tm st op
theorem readF_eq (cx : Cx) (tm : T Value) (st : St) (op : Op) : readF cx tm st op = readOp cx tm st op := by
  cases op <;> rfl

/-! what an operation does, by sight -/
def kRange (cx : Cx) (t : TypeId) : Kind := match cx.desc t with
  | some .string => .alloc
  | _ => .heavy
def kConv (cx : Cx) (s d : TypeId) : Kind := match cx.desc s, cx.desc d with
  | some .string, some (.slice _) => .alloc
  | some (.slice _), some .string => .read
  | some (.pointer _), some .unsafePointer => .read
  | some .unsafePointer, some (.pointer _) => .read
  | _, _ => .pure
def kSlice (cx : Cx) (t : TypeId) : Kind := match cx.desc t with
  | some (.slice _) => .read
  | _ => .pure
def kCall (cx : Cx) (c : Call) : Kind := match c.callee with
  | .builtin b => match b with
    | .len => match c.argTypes.toList with
      | [t] => match cx.desc t with
        | some (.map _ _) => .read
        | _ => .pure
      | _ => .pure
    | .cap | .min | .max => .pure
    | _ => .heavy
  | _ => .heavy
def kindF (cx : Cx) : Op → Kind
  | .alloc _ | .box .. | .buildSlice .. | .makeSlice .. | .makeMap .. => .alloc
  | .range t _ => kRange cx t
  | .convert s d _ => kConv cx s d
  | .load .. | .lookup .. => .read
  | .slice t _ _ _ _ => kSlice cx t
  | .store .. | .mapUpdate .. | .insert .. | .next .. | .mapEntry .. | .entryStore .. | .entry .. => .heavy
  | .call c => kCall cx c
  | _ => .pure
theorem kindF_eq (cx : Cx) (op : Op) : kindF cx op = kindOf cx op := by
  cases op <;> rfl

def hStore (cx : Cx) (tm : T Value) (st : St) (t : TypeId) (x y : Operand) : Option (Value × St) := match ev cx tm x, ev cx tm y with
  | some (.pointer (some a)), some v => match cx.size t with
    | some n => match Nat.beq v.cells.size n with
      | true => match writeCells st a v.cells.toList with
        | some st' => some (undef, st')
        | none => none
      | false => none
    | none => none
  | _, _ => none
def heavyF (cx : Cx) (tm : T Value) (st : St) (op : Op) : Option (Value × St) :=
  match op with
  | .store t x y => hStore cx tm st t x y
  | op => heavyOp cx tm st op
theorem heavyF_eq (cx : Cx) (tm : T Value) (st : St) (op : Op) : heavyF cx tm st op = heavyOp cx tm st op := by
  cases op <;> rfl

/-! a call of a Go function is no builtin: not tried as one -/
def isVal (op : Op) : Bool :=
  match op with
  | .call c => match c.callee with
    | .value _ => true
    | _ => false
  | _ => false
theorem isVal_heavy {cx : Cx} {tm : T Value} {st : St} {op : Op} (h : isVal op = true) : heavyOp cx tm st op = none := by
  cases op <;> simp only [isVal] at h <;> (try (cases h; done))
  rename_i c
  split at h
  · rename_i f hc
    simp [heavyOp, heavyCall, hc]
  · cases h

def fPure (st : St) : Option Value → Option (Value × St)
  | some v => some (v, st)
  | none => none
def fAlloc (st : St) : Option (AObj × (Nat → Value)) → Option (Value × St)
  | some (ob, f) => some (f st.ct, ⟨st.hp.set st.ct ob, st.ct + 1⟩)
  | none => none
def fHeavy (cx : Cx) (ov : Ov) (ih : CodeRun) (tm : T Value) (st : St) (op : Op) : Option (Value × St) :=
  match isVal op with
  | true => callOp cx ov ih tm st op
  | false => match heavyF cx tm st op with
    | some r => some r
    | none => none

def opF (cx : Cx) (ov : Ov) (ih : CodeRun) (tm : T Value) (st : St) (o : Oper) : Option (Value × St) :=
  match kindF cx o.op with
  | .pure => fPure st (pureF cx tm o.op)
  | .alloc => fAlloc st (allocOp cx tm o.op)
  | .read => fPure st (readF cx tm st o.op)
  | .heavy => fHeavy cx ov ih tm st o.op

theorem opF_eq (cx : Cx) (ov : Ov) (ih : CodeRun) (tm : T Value) (st : St) (o : Oper) : opF cx ov ih tm st o = opA cx ov ih tm st o := by
  unfold opF opA
  rw [kindF_eq]
  cases kindOf cx o.op with
  | pure => simp only [pureF_eq]; cases pureOp cx tm o.op <;> rfl
  | alloc => cases allocOp cx tm o.op <;> rfl
  | read => simp only [readF_eq]; cases readOp cx tm st o.op <;> rfl
  | heavy =>
    simp only [fHeavy, heavyF_eq]
    cases hv : isVal o.op with
    | true => simp only [isVal_heavy hv]
    | false =>
      cases hh : heavyOp cx tm st o.op with
      | some r => rfl
      | none =>
        simp only
        unfold callOp
        split
        · rename_i c hc
          split
          · rename_i f hf
            rw [hc] at hv
            simp [isVal, hf] at hv
          · rfl
        · rfl

def opsF (cx : Cx) (ov : Ov) (ih : CodeRun) (nt : Nat) (all : List Oper) : List Oper → T Value → St → Option (T Value × St)
  | [], tm, st => some (tm, st)
  | o :: l, tm, st => match wantedA all tm o with
    | some true => match opF cx ov ih tm st o with
      | some (v, st') => match putDst nt tm o.dst v with
        | some tm' => opsF cx ov ih nt all l tm' st'
        | none => none
      | none => none
    | some false => match putDst nt tm o.dst undef with
      | some tm' => opsF cx ov ih nt all l tm' st
      | none => none
    | none => none

theorem opsF_eq (cx : Cx) (ov : Ov) (ih : CodeRun) (nt : Nat) (all : List Oper) : ∀ (l : List Oper) (tm : T Value) (st : St), opsF cx ov ih nt all l tm st = opsA cx ov ih nt all l tm st := by
  intro l
  induction l with
  | nil => intro tm st; rfl
  | cons o l ihl =>
    intro tm st
    simp only [opsF, opsA, opF_eq, ihl]
    rfl

/-! regions whose order is open -/
def dAlloc (nt : Nat) (i : Nat) (o : Oper) (ds : DS) : Option (AObj × (Nat → Value)) → Option DS
  | some (ob, f) => putD nt { ds with st := ⟨ds.st.hp, ds.st.ct + 1⟩, pend := (i, ds.st.ct, ob) :: ds.pend } o.dst (f ds.st.ct)
  | none => none
def dPure (nt : Nat) (o : Oper) (ds : DS) : Option Value → Option DS
  | some v => putD nt ds o.dst v
  | none => none
def dRead (cx : Cx) (nt bef i : Nat) (lt : T Value) (o : Oper) (ds : DS) : Option Value → Option DS
  | some v => match pastOk cx bef lt o.op v ds.past with
    | true => putD nt { ds with reads := (i, lt, o.op, v) :: ds.reads } o.dst v
    | false => none
  | none => none
def dHeavy (cx : Cx) (nt bef i : Nat) (befs : List Nat) (o : Oper) (ds : DS) : Option (Value × St) → Option DS
  | some (v, st') => match readsOk cx befs bef st'.hp (restP bef ds.pend) ds.reads with
    | true => putD nt { ds with st := st', pend := restP bef ds.pend, past := (i, ds.st.hp, ds.pend) :: ds.past } o.dst v
    | false => none
  | none => none

def stepDF (cx : Cx) (ov : Ov) (ih : CodeRun) (nt : Nat) (all : List Oper) (befs : List Nat) (i : Nat) (o : Oper) (ds : DS) : Option DS :=
  match wantedA all (limit ds.tm (looks all o)) o with
  | none => none
  | some false => putD nt ds o.dst undef
  | some true => match kindF cx o.op with
    | .pure => dPure nt o ds (pureF cx (limit ds.tm (looks all o)) o.op)
    | .alloc => dAlloc nt i o ds (allocOp cx (limit ds.tm (looks all o)) o.op)
    | .read => dRead cx nt (befs.getD i 0) i (limit ds.tm (looks all o)) o ds (readAt cx (limit ds.tm (looks all o)) ds.st.hp ds.pend (befs.getD i 0) o.op)
    | .heavy => dHeavy cx nt (befs.getD i 0) i befs o ds (opF cx ov ih (limit ds.tm (looks all o)) ⟨mergeP (befs.getD i 0) ds.pend ds.st.hp, ds.st.ct⟩ o)

theorem stepDF_eq (cx : Cx) (ov : Ov) (ih : CodeRun) (nt : Nat) (all : List Oper) (befs : List Nat) (i : Nat) (o : Oper) (ds : DS) : stepDF cx ov ih nt all befs i o ds = stepD cx ov ih nt all befs i o ds := by
  unfold stepDF stepD
  simp only [kindF_eq, pureF_eq, opF_eq]
  cases wantedA all (limit ds.tm (looks all o)) o with
  | none => rfl
  | some b =>
    cases b with
    | false => rfl
    | true =>
      simp only
      cases kindOf cx o.op with
      | pure => simp only; cases pureOp cx (limit ds.tm (looks all o)) o.op <;> rfl
      | alloc => simp only; cases allocOp cx (limit ds.tm (looks all o)) o.op <;> rfl
      | read => simp only; cases readAt cx (limit ds.tm (looks all o)) ds.st.hp ds.pend (befs.getD i 0) o.op <;> rfl
      | heavy => simp only; cases opA cx ov ih (limit ds.tm (looks all o)) ⟨mergeP (befs.getD i 0) ds.pend ds.st.hp, ds.st.ct⟩ o <;> rfl

def stepsDF (cx : Cx) (ov : Ov) (ih : CodeRun) (nt : Nat) (all : List Oper) (befs : List Nat) : Nat → List Oper → DS → Option DS
  | _, [], ds => some ds
  | i, o :: l, ds => match stepDF cx ov ih nt all befs i o ds with
    | some ds' => stepsDF cx ov ih nt all befs (i + 1) l ds'
    | none => none
theorem stepsDF_eq (cx : Cx) (ov : Ov) (ih : CodeRun) (nt : Nat) (all : List Oper) (befs : List Nat) : ∀ (l : List Oper) (i : Nat) (ds : DS), stepsDF cx ov ih nt all befs i l ds = stepsD cx ov ih nt all befs i l ds := by
  intro l
  induction l with
  | nil => intro i ds; rfl
  | cons o l ihl => intro i ds; simp only [stepsDF, stepsD, stepDF_eq, ihl]; rfl

def drawF (cx : Cx) (ov : Ov) (ih : CodeRun) (nt : Nat) (all : List Oper) (tm : T Value) (st : St) : Option (T Value × St) :=
  match drawOk cx all with
  | true => match stepsDF cx ov ih nt all (befsOf all []) 0 all ⟨tm, st, [], [], []⟩ with
    | some ds => some (ds.tm, ⟨mergeAll ds.pend ds.st.hp, ds.st.ct⟩)
    | none => none
  | false => none
theorem drawF_eq (cx : Cx) (ov : Ov) (ih : CodeRun) (nt : Nat) (all : List Oper) (tm : T Value) (st : St) : drawF cx ov ih nt all tm st = drawA cx ov ih nt all tm st := by
  unfold drawF drawA
  simp only [stepsDF_eq]
  rfl

/-! code -/
def cSeq (ih : CodeRun) (b : Code) (nt : Nat) : Option (Ex × T Value × St) → Option (Ex × T Value × St)
  | some (ex, tm', st') => match ex with
    | .normal => ih b nt tm' st'
    | _ => some (ex, tm', st')
  | none => none
def cCond (ih : CodeRun) (a b : Code) (nt : Nat) (tm : T Value) (st : St) : Option Value → Option (Ex × T Value × St)
  | some (.bool true) => ih a nt tm st
  | some (.bool false) => ih b nt tm st
  | _ => none
def cBlock (id : Nat) : Option (Ex × T Value × St) → Option (Ex × T Value × St)
  | some (ex, tm', st') => match ex with
    | .exit id' => match Nat.beq id' id with
      | true => some (.normal, tm', st')
      | false => some (.exit id', tm', st')
    | _ => some (ex, tm', st')
  | none => none
def cLoop (cx : Cx) (ov : Ov) (ih : CodeRun) (a : Code) (nt : Nat) (tm : T Value) (st : St) : Option MapLoop → Option (Ex × T Value × St)
  | some L => loopM cx ov ih a L nt tm st
  | none => cSeq ih (.loop a) nt (ih a nt tm st)
def cRegion : Option (T Value × St) → Option (Ex × T Value × St)
  | some (tm', st') => some (.normal, tm', st')
  | none => none

def stepF (cx : Cx) (ov : Ov) (ih : CodeRun) : CodeRun := fun c nt tm st =>
  match c with
  | .skip => some (.normal, tm, st)
  | .label _ => some (.normal, tm, st)
  | .ret => some (.ret, tm, st)
  | .exit id => some (.exit id, tm, st)
  | .goto l => some (.goto l, tm, st)
  | .scope a => scopeA ih a nt 100000 a tm st
  | .rangeFunc f ps assign body => rangeA cx ov ih f ps.toList assign body nt tm st
  | .seq a b => cSeq ih b nt (ih a nt tm st)
  | .cond x a b => cCond ih a b nt tm st (ev cx tm x)
  | .block id a => cBlock id (ih a nt tm st)
  | .loop a => cLoop cx ov ih a nt tm st (mapLoop a)
  | .region _ ops draw => match draw with
    | false => cRegion (opsF cx ov ih nt ops.toList ops.toList tm st)
    | true => cRegion (drawF cx ov ih nt ops.toList tm st)
  | _ => none

theorem stepF_eq (cx : Cx) (ov : Ov) (ih : CodeRun) : stepF cx ov ih = stepA cx ov ih := by
  funext c nt tm st
  cases c <;> try rfl
  case region id ops draw =>
    cases draw with
    | false => simp only [stepF, stepA, opsF_eq]; cases opsA cx ov ih nt ops.toList ops.toList tm st <;> rfl
    | true => simp only [stepF, stepA, drawF_eq]; cases drawA cx ov ih nt ops.toList tm st <;> rfl

def runF (cx : Cx) (ov : Ov) : Nat → CodeRun
  | 0 => fun _ _ _ _ => none
  | n + 1 => stepF cx ov (runF cx ov n)
theorem runF_eq (cx : Cx) (ov : Ov) : ∀ n, runF cx ov n = run cx ov n := by
  intro n
  induction n with
  | zero => rfl
  | succ n ih => simp only [runF, run, ih, stepF_eq]

def callF (cx : Cx) (ov : Ov) (n : Nat) (f : Nat) (args : List Value) (st : St) : Option (Value × St) := callA cx ov (runF cx ov n) f args st
theorem callF_eq (cx : Cx) (ov : Ov) (n f : Nat) (args : List Value) (st : St) : callF cx ov n f args st = call cx ov n f args st := by
  unfold callF call
  rw [runF_eq]

/-- memoOk by the faster one -/
def memoF (cx : Cx) (ov : Ov) (n : Nat) (st0 : St) (e : Memo) : Bool :=
  flatL e.args && flat e.v && Nat.ble cx.ng st0.ct && keepOk st0.ct st0.hp e.ids && match callF cx ov n e.f e.args ⟨keepIds st0.hp e.ids, st0.ct⟩ with
    | some (v, _) => beqV e.v v
    | none => false
theorem memoF_ok {cx : Cx} {ov : Ov} {n : Nat} {st0 : St} {e : Memo} (h : memoF cx ov n st0 e = true) : memoOk cx ov n st0 e = true := by
  unfold memoF at h
  rw [callF_eq] at h
  exact h

end
end Go.Ai

/-! Calls whose results are known already, with what lies in memory: the arguments' rows are matched, what is made is laid. -/
namespace Go.Ai
open Go
noncomputable section

mutual
/-- ids turned into ids -/
def ren (ρ : Nat → Nat) : Value → Value
  | .pointer a => match a with | none => .pointer none | some a => .pointer (some ⟨ρ a.block, a.off, a.spot⟩)
  | .slice a n c => match a with | none => .slice none n c | some a => .slice (some ⟨ρ a.block, a.off, a.spot⟩) n c
  | .map r => match r with | none => .map none | some r => .map (some (ρ r))
  | .chan r => match r with | none => .chan none | some r => .chan (some (ρ r))
  | .func fn a b => .func (match fn with | .yield l => .yield (ρ l) | fn => fn) (renA ρ a) (renA ρ b)
  | .iface t v => .iface t (ren ρ v)
  | .agg cs => .agg (renA ρ cs)
  | .tuple cs => .tuple (renA ρ cs)
  | .bool b => .bool b
  | .int k n => .int k n
  | .float k n => .float k n
  | .complex k n m => .complex k n m
  | .string s => .string s
  | .nilFunc => .nilFunc
  | .nilIface => .nilIface
def renA (ρ : Nat → Nat) : Array Value → Array Value
  | ⟨l⟩ => ⟨renL ρ l⟩
def renL (ρ : Nat → Nat) : List Value → List Value
  | [] => []
  | v :: l => ren ρ v :: renL ρ l
end
def renE (ρ : Nat → Nat) : List MapEntry → List MapEntry
  | [] => []
  | e :: l => { key := e.key, val := ren ρ e.val, born := e.born } :: renE ρ l
def renO (ρ : Nat → Nat) : AObj → AObj
  | .row e cs o wr => .row e (renL ρ cs) o wr
  | .map es lk wr => .map (renE ρ es) lk wr
  | o => o

mutual
/-- all ids are of these -/
def inIds (p : Nat → Bool) : Value → Bool
  | .pointer a => match a with | none => true | some a => p a.block
  | .slice a _ _ => match a with | none => true | some a => p a.block
  | .map r => match r with | none => true | some r => p r
  | .chan r => match r with | none => true | some r => p r
  | .func fn a b => (match fn with | .yield _ => false | _ => true) && inIdsA p a && inIdsA p b
  | .iface _ v => inIds p v
  | .agg cs => inIdsA p cs
  | .tuple cs => inIdsA p cs
  | _ => true
def inIdsA (p : Nat → Bool) : Array Value → Bool
  | ⟨l⟩ => inIdsL p l
def inIdsL (p : Nat → Bool) : List Value → Bool
  | [] => true
  | v :: l => inIds p v && inIdsL p l
end
def inIdsE (p : Nat → Bool) : List MapEntry → Bool
  | [] => true
  | e :: l => inIds p e.val && inIdsE p l
/-- a row or a map that nothing may write, of these ids -/
def frozenIn (p : Nat → Bool) : AObj → Bool
  | .row _ cs _ wr => !wr && inIdsL p cs
  | .map es _ wr => !wr && inIdsE p es
  | _ => false

/-- the same, but that the second may be written -/
def likeO : AObj → AObj → Bool
  | .row e cs o _, .row e' cs' o' _ => Nat.beq e e' && beqVL cs cs' && decide (o = o')
  | .map es lk _, .map es' lk' _ => beqE es es' && decide (lk = lk')
  | _, _ => false
def sameO : AObj → AObj → Bool
  | .row e cs o wr, .row e' cs' o' wr' => Nat.beq e e' && beqVL cs cs' && decide (o = o') && decide (wr = wr')
  | .map es lk wr, .map es' lk' wr' => beqE es es' && decide (lk = lk') && decide (wr = wr')
  | _, _ => false

abbrev Objs := List (Nat × AObj)
structure HMemo where
  f : Nat
  args : List Value
  objs : Objs
  /-- the ids of what is made: from here on, up to there -/
  n0 : Nat
  n1 : Nat
  v : Value
  news : Objs
  /-- the laid objects that are looked at -/
  ids : List Nat

def hasKey : Objs → Nat → Bool
  | [], _ => false
  | x :: l, i => Nat.beq x.1 i || hasKey l i
def okId (b : Nat) (l : Objs) (i : Nat) : Bool := Nat.blt i b || hasKey l i
def over0 (hp : T AObj) : Objs → T AObj
  | [] => hp
  | x :: l => (over0 hp l).set x.1 x.2
def objsOk (b n0 : Nat) (p : Nat → Bool) : Objs → Bool
  | [] => true
  | x :: l => Nat.ble b x.1 && Nat.blt x.1 n0 && frozenIn p x.2 && objsOk b n0 p l
def newsOk (n0 n1 : Nat) (hp : T AObj) : Objs → Bool
  | [] => true
  | x :: l => Nat.ble n0 x.1 && Nat.blt x.1 n1 && x.2.isWr && (match hp.get x.1 with | some o => sameO x.2 o | none => false) && newsOk n0 n1 hp l

def hmemoOk (cx : Cx) (ov : Ov) (n : Nat) (st0 : St) (e : HMemo) : Bool :=
  Nat.ble cx.ng st0.ct && Nat.ble st0.ct e.n0 && keepOk st0.ct st0.hp e.ids && objsOk st0.ct e.n0 (okId st0.ct e.objs) e.objs && inIdsL (okId st0.ct e.objs) e.args &&
  match callF cx ov n e.f e.args ⟨over0 (keepIds st0.hp e.ids) e.objs, e.n0⟩ with
    | some (v, st) => beqV e.v v && Nat.beq e.n1 st.ct && Nat.ble e.n0 e.n1 && newsOk e.n0 e.n1 st.hp e.news
    | none => false

/-! which id is which (found in whatever way: it is looked at afterwards) -/
abbrev Bind := List (Nat × Nat)
def getB : Bind → Nat → Option Nat
  | [], _ => none
  | x :: l, i => match Nat.beq x.1 i with | true => some x.2 | false => getB l i
def putB (b : Nat) (i j : Nat) (l : Bind) : Bind :=
  match Nat.blt i b with
  | true => l
  | false => match getB l i with
    | some _ => l
    | none => (i, j) :: l
mutual
def findV (b : Nat) : Value → Value → Bind → Bind
  | .pointer (some x), y, l => match y with | .pointer (some y) => putB b x.block y.block l | _ => l
  | .slice (some x) _ _, y, l => match y with | .slice (some y) _ _ => putB b x.block y.block l | _ => l
  | .map (some x), y, l => match y with | .map (some y) => putB b x y l | _ => l
  | .agg x, y, l => match y with | .agg y => findA' b x y l | _ => l
  | .iface _ x, y, l => match y with | .iface _ y => findV b x y l | _ => l
  | _, _, l => l
def findA' (b : Nat) : Array Value → Array Value → Bind → Bind
  | ⟨x⟩, ⟨y⟩, l => findL b x y l
def findL (b : Nat) : List Value → List Value → Bind → Bind
  | [], _, l => l
  | x :: xs, ys, l => match ys with
    | [] => l
    | y :: ys => findL b xs ys (findV b x y l)
end
def findO (b : Nat) (hp : T AObj) : Objs → Bind → Bind
  | [], l => l
  | x :: xs, l => match getB l x.1 with
    | some j => match x.2, hp.get j with
      | .row _ cs _ _, some (.row _ cs' _ _) => findO b hp xs (findL b cs cs' l)
      | _, _ => findO b hp xs l
    | none => findO b hp xs l

def rho (b n0 ct : Nat) (l : Bind) (i : Nat) : Nat :=
  match Nat.blt i b with
  | true => i
  | false => match Nat.blt i n0 with
    | true => match getB l i with | some j => j | none => 0
    | false => i - n0 + ct

def objsLike (ρ : Nat → Nat) (hp : T AObj) : Objs → Bool
  | [] => true
  | x :: l => (match hp.get (ρ x.1) with | some o => likeO (renO ρ x.2) o | none => false) && objsLike ρ hp l
def layNews (ρ : Nat → Nat) (hp : T AObj) : Objs → T AObj
  | [] => hp
  | x :: l => (layNews ρ hp l).set (ρ x.1) (renO ρ x.2)

def hmemoTry (st0 : St) (e : HMemo) (args : List Value) (st : St) : Option (Value × St) :=
  (fun ρ : Nat → Nat => match beqVL (renL ρ e.args) args && objsLike ρ st.hp e.objs && hasIds st0.hp st.hp e.ids with
    | true => some (ren ρ e.v, ⟨layNews ρ st.hp e.news, e.n1 - e.n0 + st.ct⟩)
    | false => none) (rho st0.ct e.n0 st.ct (findO st0.ct st.hp e.objs (findL st0.ct e.args args [])))
def hmemoFind (st0 : St) (f : Nat) (args : List Value) (st : St) : List HMemo → Option (Value × St)
  | [] => none
  | e :: l => match Nat.beq e.f f with
    | true => match hmemoTry st0 e args st with
      | some q => some q
      | none => hmemoFind st0 f args st l
    | false => hmemoFind st0 f args st l
def hmemoHas (f : Nat) : List HMemo → Bool
  | [] => false
  | e :: l => match Nat.beq e.f f with
    | true => true
    | false => hmemoHas f l
/-- ahead of the others; else the call is run -/
def ovHeap (cx : Cx) (st0 : St) (l : List HMemo) (n : Nat) (ov : Ov) : Ov := fun f =>
  match hmemoHas f l with
  | true => some fun args st => match hmemoFind st0 f args st l with
    | some q => some q
    | none => callF cx ov n f args st
  | false => ov f

/-! ### soundness -/
mutual
theorem conc_ren (μ : Nat → Loc) (ρ : Nat → Nat) : ∀ v, conc μ (ren ρ v) = conc (fun i => μ (ρ i)) v
  | .bool _ => by simp [ren]
  | .int .. => by simp [ren]
  | .float .. => by simp [ren, conc]
  | .complex .. => by simp [ren, conc]
  | .string _ => by simp [ren]
  | .pointer a => by cases a <;> simp [ren, concAddr]
  | .slice a n c => by
    cases a with
    | none => simp [ren]
    | some a =>
      simp only [ren, conc_slice]
      have h1 : concCap μ (ρ a.block) c = concCap (fun i => μ (ρ i)) a.block c := rfl
      have h2 : ∀ k, concEnd μ ⟨ρ a.block, a.off, a.spot⟩ k = concEnd (fun i => μ (ρ i)) a k := by
        intro k
        unfold concEnd
        cases a.spot <;> rfl
      rw [h1, h2]
  | .map r => by cases r <;> simp [ren]
  | .chan r => by cases r <;> simp [ren, conc]
  | .func fn a b => by
    simp only [ren, conc_func, concA_ren μ ρ a, concA_ren μ ρ b]
    cases fn <;> rfl
  | .nilFunc => by simp [ren]
  | .iface t v => by simp [ren, conc_ren μ ρ v]
  | .nilIface => by simp [ren]
  | .agg cs => by simp [ren, concA_ren μ ρ cs]
  | .tuple cs => by simp [ren, concA_ren μ ρ cs]
theorem concA_ren (μ : Nat → Loc) (ρ : Nat → Nat) : ∀ a, concA μ (renA ρ a) = concA (fun i => μ (ρ i)) a
  | ⟨l⟩ => by simp only [renA, concA, concL_ren μ ρ l]
theorem concL_ren (μ : Nat → Loc) (ρ : Nat → Nat) : ∀ l, concL μ (renL ρ l) = concL (fun i => μ (ρ i)) l
  | [] => by simp [renL, concL]
  | v :: l => by simp [renL, concL, conc_ren μ ρ v, concL_ren μ ρ l]
end

mutual
theorem conc_in {p : Nat → Bool} {μ μ' : Nat → Loc} (h : ∀ i, p i = true → μ i = μ' i) : ∀ v, inIds p v = true → conc μ v = conc μ' v
  | .bool _, _ => by simp
  | .int .., _ => by simp
  | .float .., _ => by simp [conc]
  | .complex .., _ => by simp [conc]
  | .string _, _ => by simp
  | .pointer a, hb => by
    cases a with
    | none => simp
    | some a =>
      simp only [inIds] at hb
      simp [concAddr, h _ hb]
  | .slice a _ c, hb => by
    cases a with
    | none => simp
    | some a =>
      simp only [inIds] at hb
      have := h _ hb
      have hc : concCap μ a.block c = concCap μ' a.block c := by simp only [concCap, this]
      have he : ∀ k, concEnd μ a k = concEnd μ' a k := by
        intro k
        unfold concEnd
        cases a.spot <;> simp only [concAddr, this]
      rw [conc_slice, conc_slice, hc, he]
  | .map r, hb => by
    cases r with
    | none => simp
    | some r =>
      simp only [inIds] at hb
      simp [h _ hb]
  | .chan r, hb => by
    cases r with
    | none => simp [conc]
    | some r =>
      simp only [inIds] at hb
      simp [conc, h _ hb]
  | .func fn a b, hb => by
    simp only [inIds, Bool.and_eq_true] at hb
    have hfn : ∀ μ, concFn μ fn = fn := fun μ => concFn_of fun l e => by subst e; simp at hb
    simp [concA_in h a hb.1.2, concA_in h b hb.2, hfn]
  | .nilFunc, _ => by simp
  | .iface t v, hb => by simp only [inIds] at hb; simp [conc_in h v hb]
  | .nilIface, _ => by simp
  | .agg cs, hb => by simp only [inIds] at hb; simp [concA_in h cs hb]
  | .tuple cs, hb => by simp only [inIds] at hb; simp [concA_in h cs hb]
theorem concA_in {p : Nat → Bool} {μ μ' : Nat → Loc} (h : ∀ i, p i = true → μ i = μ' i) : ∀ a, inIdsA p a = true → concA μ a = concA μ' a
  | ⟨l⟩, hb => by simp only [inIdsA] at hb; simp only [concA, concL_in h l hb]
theorem concL_in {p : Nat → Bool} {μ μ' : Nat → Loc} (h : ∀ i, p i = true → μ i = μ' i) : ∀ l, inIdsL p l = true → concL μ l = concL μ' l
  | [], _ => by simp [concL]
  | v :: l, hb => by simp only [inIdsL, Bool.and_eq_true] at hb; simp [concL, conc_in h v hb.1, concL_in h l hb.2]
end

theorem renE_map (ρ : Nat → Nat) : ∀ l, renE ρ l = l.map fun e => { key := e.key, val := ren ρ e.val, born := e.born } := by
  intro l
  induction l with
  | nil => rfl
  | cons e l ih => simp [renE, ih]
theorem renL_map (ρ : Nat → Nat) : ∀ l, renL ρ l = l.map (ren ρ) := by
  intro l
  induction l with
  | nil => rfl
  | cons e l ih => simp [renL, ih]
theorem inIdsL_mem {p : Nat → Bool} : ∀ (l : List Value), inIdsL p l = true → ∀ v ∈ l, inIds p v = true := by
  intro l
  induction l with
  | nil => intro _ v hv; cases hv
  | cons x l ih =>
    intro h v hv
    simp only [inIdsL, Bool.and_eq_true] at h
    rcases List.mem_cons.1 hv with rfl | hv
    · exact h.1
    · exact ih h.2 v hv
theorem inIdsE_mem {p : Nat → Bool} : ∀ (l : List MapEntry), inIdsE p l = true → ∀ e ∈ l, inIds p e.val = true := by
  intro l
  induction l with
  | nil => intro _ v hv; cases hv
  | cons x l ih =>
    intro h v hv
    simp only [inIdsE, Bool.and_eq_true] at h
    rcases List.mem_cons.1 hv with rfl | hv
    · exact h.1
    · exact ih h.2 v hv

/-- an object under other names -/
theorem ObjRep.unren {cx : Cx} {p : Nat → Bool} {μ0 μ : Nat → Loc} {ρ : Nat → Nat} {w : World} {k : Nat} {o o' : AObj} (hag : ∀ i, p i = true → μ0 i = μ (ρ i)) (hk : μ0 k = μ (ρ k)) (hf : frozenIn p o = true) (hl : likeO (renO ρ o) o' = true)
    (hr : ObjRep cx μ w (ρ k) o') : ObjRep cx μ0 w k o := by
  cases o with
  | row e cs op wr =>
    simp only [frozenIn, Bool.and_eq_true, Bool.not_eq_true'] at hf
    obtain ⟨hwr, hin⟩ := hf
    subst hwr
    cases o' <;> simp only [renO, likeO] at hl <;> (try (cases hl; done))
    rename_i e' cs' op' wr'
    simp only [Bool.and_eq_true, decide_eq_true_eq] at hl
    obtain ⟨⟨h1, h2⟩, h3⟩ := hl
    have h1 := Nat.eq_of_beq_eq_true h1
    have h2 := beqVL_eq _ _ h2
    subst h1; subst h2; subst h3
    obtain ⟨cells, e2, fz, g1, g2, g3, _, g5, _⟩ := hr
    refine ⟨cells, e2, fz, by rw [hk]; exact g1, ?_, fun j v hj hc => ?_, (fun h => by cases h), ?_, (fun h => by cases h)⟩
    · rw [hk]; simpa [renL_map] using g2
    · have := g3 j (ren ρ v) (by rw [renL_map, List.getElem?_map, hj]; rfl) (by rw [← isCell_conc μ, conc_ren, isCell_conc]; exact hc)
      rw [hk, this, conc_ren, conc_in hag v (inIdsL_mem _ hin v (List.mem_of_getElem? hj))]
    · rw [hk]; simpa [renL_map] using g5
  | map es lk wr =>
    simp only [frozenIn, Bool.and_eq_true, Bool.not_eq_true'] at hf
    obtain ⟨hwr, hin⟩ := hf
    subst hwr
    cases o' <;> simp only [renO, likeO] at hl <;> (try (cases hl; done))
    rename_i es' lk' wr'
    simp only [Bool.and_eq_true, decide_eq_true_eq] at hl
    obtain ⟨h1, h2⟩ := hl
    have h1 := beqE_eq _ _ h1
    subst h1; subst h2
    obtain ⟨⟨es1, clock, g1, g2, g3, g4, g5⟩, g6⟩ := hr
    rw [renE_map] at g2 g6
    -- the entries as they lie, under the first names
    have hfl : ∀ e ∈ es, flat e.key = true := fun e he => g6 { key := e.key, val := Ai.ren ρ e.val, born := e.born } (List.mem_map.2 ⟨e, he, rfl⟩)
    have hback : ∀ (l1 : List MapEntry) (kv : List (Value × Value)), (l1.map kvOf).Perm ((kv.map fun q => (q.1, ren ρ q.2))) → ∃ l2 : List MapEntry, (l2.map kvOf).Perm kv ∧ l2.map (·.born) = l1.map (·.born) ∧ l1 = l2.map fun e => { key := e.key, val := ren ρ e.val, born := e.born } := by
      intro l1 kv hp
      have : ∀ (l1 : List MapEntry) (q : List (Value × Value)), l1.map kvOf = q.map (fun q => (q.1, ren ρ q.2)) → ∃ l2 : List MapEntry, l2.map kvOf = q ∧ l2.map (·.born) = l1.map (·.born) ∧ l1 = l2.map fun e => { key := e.key, val := ren ρ e.val, born := e.born } := by
        intro l1
        induction l1 with
        | nil => intro q h; cases q with
          | nil => exact ⟨[], rfl, rfl, rfl⟩
          | cons a q => simp at h
        | cons x l1 ih =>
          intro q h
          cases q with
          | nil => simp at h
          | cons a q =>
            simp only [List.map_cons, List.cons.injEq] at h
            obtain ⟨l2, h1, h2, h3⟩ := ih q h.2
            refine ⟨{ key := a.1, val := a.2, born := x.born } :: l2, by simp [kvOf, h1], by simp [h2], ?_⟩
            have hx := h.1
            simp only [kvOf, Prod.mk.injEq] at hx
            simp only [List.map_cons, List.cons.injEq]
            refine ⟨?_, h3⟩
            cases x; simp_all
      obtain ⟨q, hq1, hq2⟩ : ∃ q : List (Value × Value), l1.map kvOf = q.map (fun q => (q.1, ren ρ q.2)) ∧ q.Perm kv := by
        generalize hk2 : (kv.map fun q => (q.1, ren ρ q.2)) = kr at hp
        have gen : ∀ {a b : List (Value × Value)}, a.Perm b → ∀ kv : List (Value × Value), kv.map (fun q => (q.1, ren ρ q.2)) = b → ∃ q : List (Value × Value), a = q.map (fun q => (q.1, ren ρ q.2)) ∧ q.Perm kv := by
          intro a b hp
          induction hp with
          | nil => intro kv h; exact ⟨kv, h.symm, List.Perm.refl _⟩
          | cons x _ ih =>
            intro kv h
            cases kv with
            | nil => simp at h
            | cons y kv =>
              simp only [List.map_cons, List.cons.injEq] at h
              obtain ⟨q, h1, h2⟩ := ih kv h.2
              exact ⟨y :: q, by simp [h1, h.1], h2.cons y⟩
          | swap x y l =>
            intro kv h
            cases kv with
            | nil => simp at h
            | cons a kv => cases kv with
              | nil => simp at h
              | cons b kv =>
                simp only [List.map_cons, List.cons.injEq] at h
                exact ⟨b :: a :: kv, by simp [h.1, h.2.1, h.2.2], List.Perm.swap _ _ _⟩
          | trans _ _ ih1 ih2 =>
            intro kv h
            obtain ⟨q, h1, h2⟩ := ih2 kv h
            obtain ⟨q', h3, h4⟩ := ih1 q h1.symm
            exact ⟨q', h3, h4.trans h2⟩
        exact gen hp kv hk2
      obtain ⟨l2, h1, h2, h3⟩ := this l1 q hq1
      exact ⟨l2, by rw [h1]; exact hq2, h2, h3⟩
    obtain ⟨l2, k1, k2, k3⟩ := hback es1 (es.map kvOf) (by rw [List.map_map]; rw [List.map_map] at g2; exact g2)
    refine ⟨⟨l2, clock, ?_, k1, by rw [k2]; exact g3, fun e he => ?_, by rw [hk]; exact g5⟩, hfl⟩
    · rw [hk, g1, k3, List.map_map]
      congr 2
      apply congrArg
      refine List.map_congr_left fun x hx => ?_
      have : kvOf x ∈ es.map kvOf := k1.mem_iff.1 (List.mem_map.2 ⟨x, hx, rfl⟩)
      obtain ⟨y, hy, hxy⟩ := List.mem_map.1 this
      simp only [kvOf, Prod.mk.injEq] at hxy
      have hin2 := inIdsE_mem _ hin y hy
      rw [hxy.2] at hin2
      simp [concE, conc_ren, conc_in hag _ hin2]
    · have : e.born ∈ es1.map (·.born) := by rw [← k2]; exact List.mem_map.2 ⟨e, he, rfl⟩
      obtain ⟨e2, he2, hb⟩ := List.mem_map.1 this
      rw [← hb]; exact g4 e2 he2
  | _ => simp [frozenIn] at hf

/-- and a new one, under the names of now -/
theorem ObjRep.ren {cx : Cx} {μ : Nat → Loc} {ρ : Nat → Nat} {w : World} {k : Nat} {o : AObj} (hwr : o.isWr = true) (hso : ∃ o', sameO o o' = true) (hr : ObjRep cx (fun i => μ (ρ i)) w k o) : ObjRep cx μ w (ρ k) (renO ρ o) := by
  obtain ⟨o', hso⟩ := hso
  cases o with
  | row e cs op wr =>
    obtain ⟨cells, e2, fz, g1, g2, g3, g4, g5, g6⟩ := hr
    simp only [renO]
    refine ⟨cells, e2, fz, g1, by simpa [renL_map] using g2, fun j v hj hc => ?_, g4, by simpa [renL_map] using g5, g6⟩
    rw [renL_map, List.getElem?_map, Option.map_eq_some_iff] at hj
    obtain ⟨v0, hj, rfl⟩ := hj
    rw [conc_ren]
    refine g3 j v0 hj ?_
    rw [← isCell_conc (fun i => μ (ρ i)), ← conc_ren, isCell_conc]; exact hc
  | map es lk wr =>
    obtain ⟨⟨es1, clock, g1, g2, g3, g4, g5⟩, g6⟩ := hr
    simp only [renO]
    refine ⟨⟨es1.map fun e => { key := e.key, val := Ai.ren ρ e.val, born := e.born }, clock, ?_, ?_, ?_, ?_, g5⟩, ?_⟩
    · rw [g1, List.map_map]
      congr 2
      apply congrArg
      refine List.map_congr_left fun x _ => ?_
      simp [concE, conc_ren]
    · rw [renE_map, List.map_map, List.map_map]
      have := g2.map fun q : Value × Value => (q.1, Ai.ren ρ q.2)
      rw [List.map_map, List.map_map] at this
      exact this
    · rw [List.map_map]; exact g3
    · intro e he
      obtain ⟨x, hx, rfl⟩ := List.mem_map.1 he
      exact g4 x hx
    · intro e he
      rw [renE_map] at he
      obtain ⟨x, hx, rfl⟩ := List.mem_map.1 he
      exact g6 x hx
  | _ => simp [sameO] at hso

theorem sameO_eq : ∀ (a b : AObj), sameO a b = true → a = b := by
  intro a b h
  cases a <;> cases b <;> simp only [sameO] at h <;> (try (cases h; done))
  · simp only [Bool.and_eq_true, decide_eq_true_eq] at h
    obtain ⟨⟨⟨h3, h4⟩, h5⟩, h6⟩ := h
    rw [Nat.eq_of_beq_eq_true h3, beqVL_eq _ _ h4, h5, h6]
  · simp only [Bool.and_eq_true, decide_eq_true_eq] at h
    obtain ⟨⟨h3, h4⟩, h5⟩ := h
    rw [beqE_eq _ _ h3, h4, h5]

theorem over0_get {hp : T AObj} : ∀ (l : Objs) (id : Nat) (o : AObj), (over0 hp l).get id = some o → (id, o) ∈ l ∨ hp.get id = some o := by
  intro l
  induction l with
  | nil => intro id o h; exact .inr h
  | cons x l ih =>
    intro id o h
    simp only [over0, T.get_set] at h
    split at h
    · rename_i e; subst e; injection h with h; subst h; exact .inl (by simp)
    · rcases ih id o h with h | h
      · exact .inl (by simp [h])
      · exact .inr h
theorem objsOk_mem {b n0 : Nat} {p : Nat → Bool} : ∀ (l : Objs), objsOk b n0 p l = true → ∀ x ∈ l, b ≤ x.1 ∧ x.1 < n0 ∧ frozenIn p x.2 = true := by
  intro l
  induction l with
  | nil => intro _ x hx; cases hx
  | cons y l ih =>
    intro h x hx
    simp only [objsOk, Bool.and_eq_true] at h
    rcases List.mem_cons.1 hx with rfl | hx
    · exact ⟨Nat.le_of_ble_eq_true h.1.1.1, Nat.le_of_ble_eq_true h.1.1.2, h.1.2⟩
    · exact ih h.2 x hx
theorem newsOk_mem {n0 n1 : Nat} {hp : T AObj} : ∀ (l : Objs), newsOk n0 n1 hp l = true → ∀ x ∈ l, n0 ≤ x.1 ∧ x.1 < n1 ∧ x.2.isWr = true ∧ hp.get x.1 = some x.2 ∧ sameO x.2 x.2 = true := by
  intro l
  induction l with
  | nil => intro _ x hx; cases hx
  | cons y l ih =>
    intro h x hx
    simp only [newsOk, Bool.and_eq_true] at h
    rcases List.mem_cons.1 hx with rfl | hx
    · have h2 := h.1.2
      split at h2
      · rename_i o ho
        have e := sameO_eq _ _ h2
        subst e
        exact ⟨Nat.le_of_ble_eq_true h.1.1.1.1, Nat.le_of_ble_eq_true h.1.1.1.2, h.1.1.2, ho, h2⟩
      · cases h2
    · exact ih h.2 x hx
theorem objsLike_mem {ρ : Nat → Nat} {hp : T AObj} : ∀ (l : Objs), objsLike ρ hp l = true → ∀ x ∈ l, ∃ o, hp.get (ρ x.1) = some o ∧ likeO (renO ρ x.2) o = true := by
  intro l
  induction l with
  | nil => intro _ x hx; cases hx
  | cons y l ih =>
    intro h x hx
    simp only [objsLike, Bool.and_eq_true] at h
    rcases List.mem_cons.1 hx with rfl | hx
    · have h2 := h.1
      split at h2
      · rename_i o ho; exact ⟨o, ho, h2⟩
      · cases h2
    · exact ih h.2 x hx
theorem layNews_get {ρ : Nat → Nat} {hp : T AObj} : ∀ (l : Objs) (id : Nat) (o : AObj), (layNews ρ hp l).get id = some o → (∃ x ∈ l, id = ρ x.1 ∧ o = renO ρ x.2) ∨ hp.get id = some o := by
  intro l
  induction l with
  | nil => intro id o h; exact .inr h
  | cons x l ih =>
    intro id o h
    simp only [layNews, T.get_set] at h
    split at h
    · rename_i e; subst e; injection h with h; subst h; exact .inl ⟨x, by simp, rfl, rfl⟩
    · rcases ih id o h with ⟨y, h1, h2⟩ | h
      · exact .inl ⟨y, by simp [h1], h2⟩
      · exact .inr h
theorem hasKey_mem : ∀ (l : Objs) (i : Nat), hasKey l i = true → ∃ x ∈ l, x.1 = i := by
  intro l
  induction l with
  | nil => intro i h; cases h
  | cons x l ih =>
    intro i h
    simp only [hasKey, Bool.or_eq_true] at h
    rcases h with h | h
    · exact ⟨x, by simp, Nat.eq_of_beq_eq_true h⟩
    · obtain ⟨y, h1, h2⟩ := ih i h
      exact ⟨y, by simp [h1], h2⟩

theorem rho_low {b n0 ct : Nat} {l : Bind} {i : Nat} (h : i < b) : rho b n0 ct l i = i := by
  unfold rho
  have : Nat.blt i b = true := Nat.ble_eq.mpr h
  rw [this]
theorem rho_high {b n0 ct : Nat} {l : Bind} {i : Nat} (hb : b ≤ n0) (h : n0 ≤ i) : rho b n0 ct l i = i - n0 + ct := by
  unfold rho
  have h1 : Nat.blt i b = false := by
    cases hq : Nat.blt i b with
    | false => rfl
    | true => have : i < b := Nat.le_of_ble_eq_true hq; omega
  have h2 : Nat.blt i n0 = false := by
    cases hq : Nat.blt i n0 with
    | false => rfl
    | true => have : i < n0 := Nat.le_of_ble_eq_true hq; omega
  rw [h1, h2]

section
variable {P : Program} {ov : Ov}

theorem hmemo_ok (hmix : P.follows .mixedOrders = true) (hov : OvOk P ov) (hovm : OvMono ov) (hovi : OvIds ov) {n : Nat} {st0 st : St} {e : HMemo} (h : hmemoOk (Cx.of P) ov n st0 e = true) {args : List Value} {q : Value × St} (hq : hmemoTry st0 e args st = some q)
    {m : Nat → Option Loc} {w : World} {cargs : List Value} (hR : Rep (Cx.of P) m st.G w) (ha : VReps m args cargs) (hf : Fresh m st.ct q.2.ct) : FnOk P e.f cargs.toArray w (CallPost (Cx.of P) m st w q.1 q.2) := by
  unfold hmemoOk at h
  simp only [Bool.and_eq_true] at h
  obtain ⟨⟨⟨⟨⟨h1, h2⟩, h3⟩, h4⟩, h5⟩, h6⟩ := h
  split at h6 <;> (try (cases h6; done))
  rename_i v st2 hc
  rw [callF_eq] at hc
  simp only [Bool.and_eq_true] at h6
  obtain ⟨⟨⟨k1, k2⟩, k3⟩, k4⟩ := h6
  have hv := beqV_eq _ _ k1
  have hn1 := Nat.eq_of_beq_eq_true k2
  have hle := Nat.le_of_ble_eq_true k3
  have h1 := Nat.le_of_ble_eq_true h1
  have h2 := Nat.le_of_ble_eq_true h2
  unfold hmemoTry at hq
  generalize hρ : rho st0.ct e.n0 st.ct (findO st0.ct st.hp e.objs (findL st0.ct e.args args [])) = ρ at hq
  simp only at hq
  split at hq <;> (try (cases hq; done))
  rename_i hchk
  simp only [Bool.and_eq_true] at hchk
  obtain ⟨⟨c1, c2⟩, c3⟩ := hchk
  have c1 := beqVL_eq _ _ c1
  simp only [Option.some.injEq] at hq
  subst hq
  simp only at hf ⊢
  have hlow : ∀ i, i < st0.ct → ρ i = i := fun i hi => by rw [← hρ]; exact rho_low hi
  have hhigh : ∀ i, e.n0 ≤ i → ρ i = i - e.n0 + st.ct := fun i hi => by rw [← hρ]; exact rho_high h2 hi
  generalize hm0 : (fun i => if i < e.n0 then m (ρ i) else none) = m0
  have hm0a : ∀ i, i < e.n0 → m0 i = m (ρ i) := fun i hi => by rw [← hm0]; simp [hi]
  have hm0b : ∀ i, e.n0 ≤ i → m0 i = none := fun i hi => by rw [← hm0]; simp [Nat.not_lt.2 hi]
  have hobj := objsOk_mem _ h4
  have hlike := objsLike_mem _ c2
  -- any names that go on from the small ones go on to names that go on from the great ones
  have lift : ∀ μ0, Ext m0 μ0 → ∃ μ, Ext m μ ∧ ∀ i, okId st0.ct e.objs i = true → μ0 i = μ (ρ i) := by
    intro μ0 hμ0
    refine ⟨fun i => (m i).getD (μ0 i), fun i l hi => by simp [hi], fun i hi => ?_⟩
    simp only [okId, Bool.or_eq_true] at hi
    rcases hi with hi | hi
    · have hi : i < st0.ct := Nat.le_of_ble_eq_true hi
      rw [hlow i hi]
      cases hmi : m i with
      | none => simp [hmi]
      | some l =>
        simp only [hmi, Option.getD_some]
        exact hμ0 i l (by rw [hm0a i (by omega), hlow i hi, hmi])
    · obtain ⟨x, hx, rfl⟩ := hasKey_mem _ _ hi
      obtain ⟨_, hlt, _⟩ := hobj x hx
      obtain ⟨o, ho, _⟩ := hlike x hx
      obtain ⟨l, hl, _⟩ := hR.dom _ _ ho
      simp only [hl, Option.getD_some]
      exact hμ0 _ _ (by rw [hm0a _ hlt, hl])
  have sub : ∀ id o, (⟨over0 (keepIds st0.hp e.ids) e.objs, e.n0⟩ : St).G id o → o.isWr = false ∧ (((id, o) ∈ e.objs) ∨ (st.G id o ∧ id < st0.ct ∧ belowO st0.ct o = true)) := by
    intro id o hg
    rcases over0_get _ _ _ hg with hg | hg
    · obtain ⟨_, _, hfz⟩ := hobj _ hg
      refine ⟨?_, .inl hg⟩
      cases o <;> simp [frozenIn] at hfz <;> simp [AObj.isWr, hfz]
    · obtain ⟨g1, g2⟩ := keepIds_get _ _ _ hg
      obtain ⟨g3, o', g4, g5⟩ := keepOk_mem _ h3 id g1
      rw [g2] at g4; injection g4 with g4; subst g4
      obtain ⟨g6, g7⟩ := hasIds_mem _ c3 id g1 o g2
      exact ⟨g7, .inr ⟨g6, g3, g5⟩⟩
  have hR0 : Rep (Cx.of P) m0 (⟨over0 (keepIds st0.hp e.ids) e.objs, e.n0⟩ : St).G w := {
    dom := fun id o hg => by
      rcases (sub id o hg).2 with hx | ⟨g1, g2, _⟩
      · obtain ⟨_, hlt, _⟩ := hobj _ hx
        obtain ⟨o', ho', _⟩ := hlike _ hx
        obtain ⟨l, k5, k6⟩ := hR.dom _ _ ho'
        exact ⟨l, by rw [hm0a _ hlt]; exact k5, k6⟩
      · obtain ⟨l, k5, k6⟩ := hR.dom _ _ g1
        exact ⟨l, by rw [hm0a _ (by omega), hlow _ g2]; exact k5, k6⟩
    obj := fun μ0 hμ0 id o hg => by
      obtain ⟨μ, hμ, hag⟩ := lift μ0 hμ0
      rcases (sub id o hg).2 with hx | ⟨g1, g2, g3⟩
      · obtain ⟨_, _, hfz⟩ := hobj _ hx
        obtain ⟨o', ho', hlk⟩ := hlike _ hx
        have hkey : okId st0.ct e.objs id = true := by
          simp only [okId, Bool.or_eq_true]
          refine .inr ?_
          have : ∀ (l : Objs), (id, o) ∈ l → hasKey l id = true := by
            intro l
            induction l with
            | nil => intro h; cases h
            | cons y l ih =>
              intro h
              simp only [hasKey, Bool.or_eq_true]
              rcases List.mem_cons.1 h with h | h
              · subst h; exact .inl (by simp)
              · exact .inr (ih h)
          exact this _ hx
        exact ObjRep.unren hag (hag id hkey) hfz hlk (hR.obj μ hμ _ _ ho')
      · have hag2 : AgreeBelow st0.ct μ0 μ := fun i hi => by
          have := hag i (by simp only [okId, Bool.or_eq_true]; exact .inl (Nat.ble_eq.mpr hi))
          rw [hlow i hi] at this; exact this
        exact (hR.obj μ hμ id o g1).below hag2 g2 g3
    inj := fun i j oi oj li lj hi _ hw => by
      have := (sub i oi hi).1
      rw [this] at hw; cases hw
    glob := fun g hg => by
      have : g < st0.ct := Nat.lt_of_lt_of_le hg h1
      rw [hm0a _ (by omega), hlow _ this]; exact hR.glob g hg }
  have hargs : VReps m0 e.args cargs := by
    intro μ0 hμ0
    obtain ⟨μ, hμ, hag⟩ := lift μ0 hμ0
    rw [← ha μ hμ, ← c1, ← concL_eq, ← concL_eq, concL_ren]
    exact concL_in hag _ h5
  have hfr0 : Fresh m0 e.n0 st2.ct := fun i hi _ => hm0b i hi
  have hcall := call_sound hmix hov hovm hovi hc hR0 hargs hfr0
  have fin : ∀ cv w', CallPost (Cx.of P) m0 ⟨over0 (keepIds st0.hp e.ids) e.objs, e.n0⟩ w v st2 cv w' → CallPost (Cx.of P) m st w (ren ρ e.v) ⟨layNews ρ st.hp e.news, e.n1 - e.n0 + st.ct⟩ cv w' := by
    rintro cv w' ⟨m', hs, hvr⟩
    simp only at hs
    have hblk : ∀ b, b < w.heap.size → w'.heap[b]? = w.heap[b]? := fun b hb => hs.fr.block b hb fun id o l hg hw => by rw [(sub id o hg).1] at hw; cases hw
    generalize hm2 : (fun i => if st.ct ≤ i ∧ i < e.n1 - e.n0 + st.ct then m' (i - st.ct + e.n0) else m i) = m2
    have hm2a : ∀ i, e.n0 ≤ i → i < e.n1 → m2 (ρ i) = m' i := fun i hi1 hi2 => by
      rw [← hm2, hhigh i hi1]
      have : st.ct ≤ i - e.n0 + st.ct ∧ i - e.n0 + st.ct < e.n1 - e.n0 + st.ct := by omega
      simp only [if_pos this]
      congr 1; omega
    have hmono : ∀ i l, m i = some l → m2 i = some l := fun i l hi => by
      rw [← hm2]
      by_cases hr : st.ct ≤ i ∧ i < e.n1 - e.n0 + st.ct
      · rw [hf i hr.1 hr.2] at hi; cases hi
      · simp only [if_neg hr]; exact hi
    have hext : ∀ μ, Ext m2 μ → Ext m' (fun i => μ (ρ i)) := by
      intro μ hμ i l hi
      rcases hs.dom i l hi with h7 | ⟨h7, h8⟩
      · have hlt : i < e.n0 := by
          rcases Nat.lt_or_ge i e.n0 with h | h
          · exact h
          · rw [hm0b i h] at h7; cases h7
        rw [hm0a i hlt] at h7
        exact hμ _ _ (hmono _ _ h7)
      · exact hμ _ _ (by rw [hm2a i h7 (by omega)]; exact hi)
    have news : ∀ x ∈ e.news, ∃ l, m2 (ρ x.1) = some l ∧ l.blk < w'.heap.size ∧ w.heap.size ≤ l.blk ∧ st2.G x.1 x.2 ∧ st.ct ≤ ρ x.1 ∧ (renO ρ x.2).isWr = true := by
      intro x hx
      obtain ⟨n3, n4, n5, n6, n7⟩ := newsOk_mem _ k4 x hx
      obtain ⟨l, n8, n9⟩ := hs.rep.dom _ _ n6
      refine ⟨l, by rw [hm2a _ n3 n4]; exact n8, n9, ?_, n6, by rw [hhigh _ n3]; omega, ?_⟩
      · rcases hs.prov _ _ _ n6 n8 with h | ⟨id0, o0, l0, g0, gw, _⟩
        · exact h
        · have := (sub id0 o0 g0).1
          rw [gw n5] at this; cases this
      · cases hx2 : x.2 <;> rw [hx2] at n5 n7 <;> simp [sameO] at n7 <;> simpa [renO, AObj.isWr] using n5
    have old : ∀ i o, st.G i o → ∃ l, m i = some l ∧ m2 i = some l ∧ l.blk < w.heap.size := fun i o hg => by
      obtain ⟨l, g1, g2⟩ := hR.dom i o hg
      exact ⟨l, g1, hmono _ _ g1, g2⟩
    refine ⟨m2, ⟨hmono, fun i l hi => ?_, ⟨?_, ?_, ?_, fun g hg => hmono _ _ (hR.glob g hg)⟩, ⟨hs.fr.size, hs.fr.os, hs.fr.tape, hs.fr.output, fun b hb _ => hblk b hb⟩, ?_⟩, ?_⟩
    · rw [← hm2] at hi
      by_cases hr : st.ct ≤ i ∧ i < e.n1 - e.n0 + st.ct
      · exact .inr hr
      · simp only [if_neg hr] at hi; exact .inl hi
    · intro id o hg
      rcases layNews_get _ _ _ hg with ⟨x, hx, rfl, rfl⟩ | hg
      · obtain ⟨l, g1, g2, _⟩ := news x hx
        exact ⟨l, g1, g2⟩
      · obtain ⟨l, _, g2, g3⟩ := old id o hg
        exact ⟨l, g2, Nat.lt_of_lt_of_le g3 hs.fr.size⟩
    · intro μ hμ id o hg
      rcases layNews_get _ _ _ hg with ⟨x, hx, rfl, rfl⟩ | hg
      · obtain ⟨_, _, n5, n6, n7⟩ := newsOk_mem _ k4 x hx
        exact ObjRep.ren n5 ⟨_, n7⟩ (hs.rep.obj _ (hext μ hμ) _ _ n6)
      · obtain ⟨l, g1, g2, g3⟩ := old id o hg
        have hμm : Ext m μ := fun i l hi => hμ _ _ (hmono _ _ hi)
        refine (hR.obj μ hμm id o hg).congr (hblk _ ?_)
        rw [hμm id l g1]; exact g3
    · intro i j oi oj li lj hi hj hw hli hlj hb
      rcases layNews_get _ _ _ hi with ⟨x, hx, rfl, rfl⟩ | hi <;> rcases layNews_get _ _ _ hj with ⟨y, hy, rfl, rfl⟩ | hj
      · obtain ⟨n3, n4, n5, n6, _⟩ := newsOk_mem _ k4 x hx
        obtain ⟨n3', n4', _, n6', _⟩ := newsOk_mem _ k4 y hy
        rw [hm2a _ n3 n4] at hli
        rw [hm2a _ n3' n4'] at hlj
        have := hs.rep.inj _ _ _ _ _ _ n6 n6' n5 hli hlj hb
        rw [this]
      · obtain ⟨l, g1, _, g3, _⟩ := news x hx
        obtain ⟨l', _, g5, g6⟩ := old j oj hj
        rw [g1] at hli; injection hli with hli; subst hli
        rw [g5] at hlj; injection hlj with hlj; subst hlj
        omega
      · obtain ⟨l, g1, _, g3, _⟩ := news y hy
        obtain ⟨l', _, g5, g6⟩ := old i oi hi
        rw [g1] at hlj; injection hlj with hlj; subst hlj
        rw [g5] at hli; injection hli with hli; subst hli
        omega
      · obtain ⟨l, g1, g2, _⟩ := old i oi hi
        obtain ⟨l', g3, g4, _⟩ := old j oj hj
        rw [g2] at hli; injection hli with hli; subst hli
        rw [g4] at hlj; injection hlj with hlj; subst hlj
        exact hR.inj i j oi oj _ _ hi hj hw g1 g3 hb
    · intro id o l hg hl
      rcases layNews_get _ _ _ hg with ⟨x, hx, rfl, rfl⟩ | hg
      · obtain ⟨l', g1, _, g3, _⟩ := news x hx
        rw [g1] at hl; injection hl with hl; subst hl
        exact .inl g3
      · obtain ⟨l', g1, g2, _⟩ := old id o hg
        rw [g2] at hl; injection hl with hl; subst hl
        exact .inr ⟨id, o, _, hg, fun h => h, g1, rfl⟩
    · intro μ hμ
      rw [conc_ren, hv]
      exact hvr _ (hext μ hμ)
  rcases hcall with ⟨cv, w', g1, g2⟩ | ⟨g1, g2⟩
  · exact .inl ⟨cv, w', g1, fin cv w' g2⟩
  · exact .inr ⟨g1, g2.mono fun x w' ⟨y, hy, hp⟩ => ⟨y, hy, fin y w' hp⟩⟩

theorem hmemoFind_mem {st0 st : St} {f : Nat} {args : List Value} : ∀ (l : List HMemo) (q : Value × St), hmemoFind st0 f args st l = some q → ∃ e ∈ l, e.f = f ∧ hmemoTry st0 e args st = some q := by
  intro l
  induction l with
  | nil => intro v h; simp [hmemoFind] at h
  | cons e l ih =>
    intro q h
    have rest : hmemoFind st0 f args st l = some q → ∃ e' ∈ e :: l, e'.f = f ∧ hmemoTry st0 e' args st = some q := fun h => by
      obtain ⟨e', h1, h2⟩ := ih q h
      exact ⟨e', by simp [h1], h2⟩
    simp only [hmemoFind] at h
    split at h
    · rename_i h1
      split at h
      · rename_i q' hq
        simp at h; subst h
        exact ⟨e, by simp, Nat.eq_of_beq_eq_true h1, hq⟩
      · exact rest h
    · exact rest h

theorem hmemoAll_nil {p : HMemo → Prop} : ∀ e ∈ ([] : List HMemo), p e := fun e he => by cases he
theorem hmemoAll_cons {p : HMemo → Prop} {e : HMemo} {l : List HMemo} (h : p e) (hl : ∀ x ∈ l, p x) : ∀ x ∈ e :: l, p x := fun x hx => by
  rcases List.mem_cons.1 hx with rfl | hx
  · exact h
  · exact hl x hx

theorem hmemoTry_st {st0 st : St} {e : HMemo} {args : List Value} {q : Value × St} (h : hmemoTry st0 e args st = some q) : ∃ ρ : Nat → Nat, q.2 = ⟨layNews ρ st.hp e.news, e.n1 - e.n0 + st.ct⟩ ∧ ρ = rho st0.ct e.n0 st.ct (findO st0.ct st.hp e.objs (findL st0.ct e.args args [])) := by
  unfold hmemoTry at h
  simp only at h
  split at h
  · simp only [Option.some.injEq] at h; subst h; exact ⟨_, rfl, rfl⟩
  · cases h

theorem ovHeap_ok (hmix : P.follows .mixedOrders = true) (hov : OvOk P ov) (hovm : OvMono ov) (hovi : OvIds ov) {st0 : St} {l : List HMemo} {n : Nat} (hl : ∀ e ∈ l, ∃ n, hmemoOk (Cx.of P) ov n st0 e = true) : OvOk P (ovHeap (Cx.of P) st0 l n ov) := by
  intro f g args st v st' hg hr m w cargs hR ha hf
  unfold ovHeap at hg
  split at hg
  · simp at hg; subst hg
    simp only at hr
    split at hr
    · rename_i q hq
      simp at hr; subst hr
      obtain ⟨e, h1, rfl, h4⟩ := hmemoFind_mem _ _ hq
      obtain ⟨n, hn⟩ := hl e h1
      exact hmemo_ok hmix hov hovm hovi hn h4 hR ha hf
    · rw [callF_eq] at hr
      exact call_sound hmix hov hovm hovi hr hR ha hf
  · exact hov f g args st v st' hg hr m w cargs hR ha hf

theorem ovHeap_mono (hovm : OvMono ov) {cx : Cx} {st0 : St} {l : List HMemo} {n : Nat} : OvMono (ovHeap cx st0 l n ov) := by
  intro f g args st v st' hg hr
  unfold ovHeap at hg
  split at hg
  · simp at hg; subst hg
    simp only at hr
    split at hr
    · rename_i q hq
      simp at hr; subst hr
      obtain ⟨e, _, _, h4⟩ := hmemoFind_mem _ _ hq
      obtain ⟨_, h5, _⟩ := hmemoTry_st h4
      simp only at h5
      rw [h5]; simp
    · rw [callF_eq] at hr
      exact callA_ct hovm (run_ct hovm n) hr
  · exact hovm f g args st v st' hg hr

theorem ovHeap_ids (hovm : OvMono ov) (hovi : OvIds ov) {st0 : St} {l : List HMemo} {n : Nat} (hl : ∀ e ∈ l, ∃ n, hmemoOk (Cx.of P) ov n st0 e = true) : OvIds (ovHeap (Cx.of P) st0 l n ov) := by
  intro f g args st v st' hg hr
  unfold ovHeap at hg
  split at hg
  · simp at hg; subst hg
    simp only at hr
    split at hr
    · rename_i q hq
      simp at hr; subst hr
      obtain ⟨e, he, _, h4⟩ := hmemoFind_mem _ _ hq
      obtain ⟨ρ, h5, h6⟩ := hmemoTry_st h4
      simp only at h5
      obtain ⟨n, hn⟩ := hl e he
      unfold hmemoOk at hn
      simp only [Bool.and_eq_true] at hn
      obtain ⟨⟨⟨⟨⟨_, h2⟩, _⟩, _⟩, _⟩, h7⟩ := hn
      split at h7 <;> (try (cases h7; done))
      simp only [Bool.and_eq_true] at h7
      have h2 := Nat.le_of_ble_eq_true h2
      rw [h5]
      intro id o hgo
      rcases layNews_get _ _ _ hgo with ⟨x, hx, rfl, rfl⟩ | hgo
      · obtain ⟨n3, n4, _⟩ := newsOk_mem _ h7.2 x hx
        right
        rw [h6, rho_high h2 n3]
        simp only
        omega
      · exact .inl ⟨o, hgo⟩
    · rw [callF_eq] at hr
      exact callA_ids hovi (run_ids hovm hovi n) hr
  · exact hovi f g args st v st' hg hr

end
end
end Go.Ai

/-! A law without arguments, run by the abstract interpreter. -/
namespace Go.Ai
open Go Go.ChangeShapes Go.WideShapes Go.RowKit
noncomputable section

/-- nothing that was there has turned -/
structure Stays (W W' : World) : Prop where
  os : W'.os = W.os
  output : W'.output = W.output
  size : W.heap.size ≤ W'.heap.size
  block : ∀ b, b < W.heap.size → W'.heap[b]? = W.heap[b]?

theorem Stays.keptBut {W W' : World} (h : Stays W W') (may : MemPlace → Prop) : W.keptBut W' may := by
  refine ⟨h.os, h.output, fun i hi => ?_⟩
  rw [h.block i hi]
  cases W.heap[i]? with
  | none => trivial
  | some o => cases o <;> simp

section
variable {P : Program}

theorem Step.stays {m m' : Nat → Option Loc} {G G' : Nat → AObj → Prop} {w w' : World} {ct ct' : Nat} (h : Step (Cx.of P) m G w ct m' G' w' ct') (hro : ∀ id o, G id o → o.isWr = false) : Stays w w' where
  os := h.fr.os
  output := h.fr.output
  size := h.fr.size
  block := fun b hb => h.fr.block b hb fun id o l hg hw => by rw [hro id o hg] at hw; cases hw

/-- the abstract heap at the start -/
def startOf (P : Program) (nm : List (String × TypeId)) (fs : List Nat) (laid : List (String × DataW Unit)) : St :=
  match laidStart P nm fs laid with
  | some st => st
  | none => ⟨.nil, 0⟩

/-- the run of a law without arguments -/
def closedRun (P : Program) (ov : Ov) (nm : List (String × TypeId)) (fs : List Nat) (laid : List (String × DataW Unit)) (n f : Nat) : Bool :=
  (laidStart P nm fs laid).isSome && match callF (Cx.of P) ov n f [] (startOf P nm fs laid) with
    | some (.bool true, _) => true
    | _ => false

theorem closed_calls (hmix : P.follows .mixedOrders = true) {ov : Ov} (hov : OvOk P ov) (hovm : OvMono ov) (hovi : OvIds ov) {nm : List (String × TypeId)} (h2 : nm.all (nameOk P) = true) {fs : List Nat} {laid : List (String × DataW Unit)} {n f : Nat} (h : closedRun P ov nm fs laid n f = true)
    {fn : Func} (hfn : P.funcs[f]? = some fn) (hb : fn.body.isSome = true) (hnm : (fn.name == "runtime.NumGoroutine") = false) {W : World} (hl : laidMetH P laid W) :
    Calls P f #[] W fun e W' => e = .returned (.bool true) ∧ Stays W W' := by
  unfold closedRun at h
  simp only [Bool.and_eq_true] at h
  obtain ⟨hs, h3⟩ := h
  obtain ⟨st, hst⟩ := Option.isSome_iff_exists.1 hs
  have hst2 : startOf P nm fs laid = st := by unfold startOf; rw [hst]
  rw [hst2] at h3
  split at h3 <;> (try (cases h3; done))
  rename_i st' hrun
  rw [callF_eq] at hrun
  obtain ⟨m, hR, hfr, hro⟩ := laidStart_rep h2 hst hl
  have hc := call_sound hmix hov hovm hovi hrun hR (cargs := []) (fun μ _ => rfl) (fun i hi _ => hfr i hi)
  have hent : (callFunc f #[]).run P W = .ok (.enter f #[]) W := by
    have h1 : fn.name ≠ "runtime.NumGoroutine" := by simpa using hnm
    obtain ⟨c, hc⟩ := Option.isSome_iff_exists.1 hb
    simp [callFunc, hfn, h1, hc]
  rcases hc with ⟨v, w', h4, _⟩ | ⟨_, h5⟩
  · rw [hent] at h4; cases h4
  · refine h5.mono fun e W' ⟨v, he, m', hs, hv⟩ => ?_
    have : v = .bool true := (hv _ (some0_ext m')).symm
    subst this
    exact ⟨he, hs.stays hro⟩

variable {H : Type} {enc : TypeId × Value → H}

/-- the words of the row, where nothing that was there has turned -/
theorem post_stays {f : Func} {s : ChangeSpec} {apart fresh handsOn again : Bool} {W W' : World} {args : Array Value} {v : Value} {ds gs : List (DataW H)} {before pa pv : List MemPlace}
    (hW : DataW.Whole enc P f.params.toList s.vars apart W args.toList ds gs before)
    (hres : ∀ (b : Nat) (sp : Nat → Bool) (hd : Bool), DataW.TrodAll enc P W' b sp hd f.resultTypes.toList (v.resultList f.resultTypes.size) (s.fn H (ds ++ gs)).results [])
    (hargs : ∀ sp : Nat → Bool, (∀ p ∈ before, sp p.block = true) → DataW.TrodAll enc P W' 0 sp true f.params.toList args.toList (s.fn H (ds ++ gs)).args pa)
    (hvars : ∀ sp : Nat → Bool, (∀ p ∈ before, sp p.block = true) → DataW.TrodVars enc P W' sp s.vars (s.fn H (ds ++ gs)).vars pv)
    (hps : before = pa ++ pv) (hk : Stays W W')
    (hok : ∀ (j : Nat) (t : TypeId) (r : Value), f.resultTypes[j]? = some t → (v.resultList f.resultTypes.size)[j]? = some r → Value.okWide P W' .any 0 t r) :
    s.post enc P f apart fresh handsOn again W args v W' := by
  have hold : ∀ p ∈ before, (fun b => decide (b < W.heap.size)) p.block = true := fun p hp => by simpa using hW.lt p hp
  refine ⟨ds, gs, before, [], pa, pv, hW, hres _ _ _, hargs _ hold, hvars _ hold, hk.keptBut _, fun _ => ?_⟩
  have hlt := hW.lt
  obtain ⟨_, _, _, _, _, hz, hn⟩ := hW
  refine ⟨hok, _, _, ([] ++ pa) ++ pv, ⟨[] ++ pa, pv, trodAll_append (hargs _ (fun _ _ => rfl)) (hres _ _ _), hvars _ (fun _ _ => rfl), rfl, ?_, ?_⟩, ?_⟩
  · intro b off hp
    have hp' : MemPlace.cell b off ∈ before := by rw [hps]; simpa using hp
    have := hz b off hp'
    have hb : b < W.heap.size := hlt _ hp'
    unfold World.frozen? at this ⊢
    rw [hk.block b hb]; exact this
  · intro ha
    have := hn ha
    rw [hps] at this
    simpa using this
  · intro p hp _
    rw [hps]
    simpa using hp

/-- a table's cells -/
def pinCells : DataW Unit → Array Value
  | .agg l => ⟨l.map fun d => match d with
    | .lit (.int k n) => .int k n
    | _ => undef⟩
  | _ => #[]

/-- a world with some variables' cells laid by hand -/
def pinWorld (w : World) : List (Nat × DataW Unit) → World
  | [] => w
  | (g, d) :: l => pinWorld { w with heap := w.heap.modify g fun o => match o with
    | .cells _ t fz => .cells (pinCells d) t fz
    | o => o } l

theorem closed_lifted {C : Checked} {os : Os} (started : os.Started) {f : FuncId} {fn : Func} {s : ChangeSpec} {laid : List (String × DataW Unit)} {tb : TypeId} {apart fresh : Bool}
    (own : ownKnob C.prog.godebug = none) (noInit : C.prog.inits.idxOf? f = none) (hfn : C.prog.funcs[f]? = some fn)
    (hp : fn.params = #[]) (hr : fn.resultTypes = #[tb]) (ht : C.prog.underlying tb = some .bool) (hv : s.vars = []) (hs : s.fn H [] = { results := [.lit (.bool true)], args := [] })
    (hcalls : ∀ W, laidMetH C.prog laid W → Calls C.prog f #[] W fun e W' => e = .returned (.bool true) ∧ Stays W W')
    (witness : ∃ (w : World) (tape : Tape) (i : Input), w.os = os ∧ (w.forCall tape i).Shaped C.prog ∧ i.vars = [] ∧ Input.okWide C.prog (w.forCall tape i) .any w.heap.size f i ∧
      ((s.pre enc C.prog fn [] apart (w.forCall tape i).memory i.args ∧ laidMetH C.prog laid (w.forCall tape i).memory) ∧ sizedMet enc C.prog fn (OpenSpec.ofChange s) apart (w.forCall tape i).memory i.args) ∧ ({} : Assume).holds C.prog (lone (Frame.enter C.prog f i.args .normal) [] (w.forCall tape i))) :
    ReturnsInHanded {} C os f .any (fun w args => (s.pre enc C.prog fn [] apart w args ∧ laidMetH C.prog laid w) ∧ sizedMet enc C.prog fn (OpenSpec.ofChange s) apart w args) (s.post enc C.prog fn apart fresh false false) := by
  refine returnsInHanded_of_change_and (C := C) (X := fun w _ => laidMetH C.prog laid w) (fun _ _ _ hh h => h.of_heap hh) own started noInit hfn witness ?_
  intro W base args ds gs before hval0 hW _ _ hL _
  have hW' := hW
  obtain ⟨p, q, hA, hV, rfl, hfz, hnd⟩ := hW
  rw [hp] at hA
  rw [hv] at hV
  obtain ⟨rfl, rfl, rfl⟩ := trodAll_none hA
  obtain ⟨rfl, rfl⟩ := trodVars_none hV
  refine (hcalls _ hL).mono fun e W' ⟨he, hst⟩ => ?_
  subst he
  refine ⟨_, rfl, post_stays (pa := []) (pv := []) hW' (fun b sp hd => ?_) (fun sp _ => ?_) (fun _ _ => ?_) rfl hst (ok_one hr rfl (okWide_bool_mk ht _))⟩
  · simp only [List.append_nil, hs, hr]
    exact trodAll_mk1 (shut_bool ht true)
  · simp only [List.append_nil, hs, hp]
    rfl
  · simp only [List.append_nil, hs, hv]
    rfl

end
end
end Go.Ai
