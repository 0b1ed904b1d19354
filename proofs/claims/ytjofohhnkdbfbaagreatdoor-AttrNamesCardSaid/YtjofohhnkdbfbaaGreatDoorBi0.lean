/- THE INTERPRETER B: definitions: an interpreter of the model's code over data. Conditions: none. -/
import Derived.RangeFuncIn
import Derived.OrdersIn
import Derived.Below
/- THE INTERPRETER 'B': an executable reading of the model's code over data: slices are lists, memory is a small store of sites. Definitions alone; what they are worth is proved in the texts behind. -/
set_option linter.unusedVariables false
namespace Go.BI
open Go

/-- A tree (number 0 at the root; the others to the left and to the right by turns). -/
inductive Tr (α : Type) where
  | nil
  | node (d : α) (l r : Tr α)
  deriving Inhabited

/-- Data without references. -/
inductive V where
  | undef
  | bool (b : Bool)
  | int (k : IntKind) (n : Int)
  | str (s : List UInt8)
  | nilp
  | nilfn
  | nilif
  | iface (t : TypeId) (x : V)
  | ifany
  | slice (nl : Bool) (sz : Nat) (xs : List V)
  | agg (cs : List V)
  | tup (cs : List V)
  deriving Inhabited

/-- Data with references into the store: a pointer (site, version, offset), a pointer to what is never written any more ('pin'), a slice of a row in the store ('arr'), a slice that is known to be full ('full'), functions, a loop's yield, an iterator over a text. -/
inductive D where
  | v (x : V)
  | ptr (s ver off : Nat)
  | anyp
  | pin (k : Bool) (cs : List V)
  | arr (s ver sz off len : Nat)
  | full (nl : Bool) (sz : Nat) (xs : List V)
  | fn (f : FuncId) (first caps : List D)
  | yld (s ver : Nat)
  | itr (s ver : Nat)
  | agg (cs : List D)
  | tup (cs : List D)
  deriving Inhabited

abbrev E := Tr D

structure LRec where
  state : LoopState
  pending : Option Code
  env : E
  params : List Tmp
  assign : Code
  body : Code
  fb : Nat
  deriving Inhabited

inductive BObj where
  | box (ty : TypeId) (cells : List D) (fz : Nat)
  | iter (s : List UInt8) (pos : Nat)
  | loop (l : LRec)
  deriving Inhabited

structure Rec where
  ver : Nat
  obj : Option BObj
  deriving Inhabited

abbrev Sites := Tr Rec

structure St where
  sites : Sites
  top : Nat
  low : Nat
  deriving Inhabited

/-! ### Forcing: functions that hand on what they are given, evaluated (for the kernel's sake) -/
def fNat {β : Type} (n : Nat) (k : Nat → β) : β := match n with | 0 => k 0 | m + 1 => k (m + 1)
def fInt {β : Type} (n : Int) (k : Int → β) : β := match n with | .ofNat m => fNat m fun m => k (.ofNat m) | .negSucc m => fNat m fun m => k (.negSucc m)
def fBool {β : Type} (b : Bool) (k : Bool → β) : β := match b with | true => k true | false => k false
def fList {α β : Type} (l : List α) (k : List α → β) : β := match l with | [] => k [] | x :: r => fList r fun r => k (x :: r)
def fListW {α β : Type} (f : α → (α → β) → β) (l : List α) (k : List α → β) : β := match l with | [] => k [] | x :: r => f x fun x => fListW f r fun r => k (x :: r)

@[simp] theorem fNat_eq {β : Type} (n : Nat) (k : Nat → β) : fNat n k = k n := by cases n <;> rfl
@[simp] theorem fInt_eq {β : Type} (n : Int) (k : Int → β) : fInt n k = k n := by cases n <;> simp [fInt]
@[simp] theorem fBool_eq {β : Type} (b : Bool) (k : Bool → β) : fBool b k = k b := by cases b <;> rfl
@[simp] theorem fList_eq {α β : Type} (l : List α) (k : List α → β) : fList l k = k l := by
  induction l generalizing k with
  | nil => rfl
  | cons x r ih => simp [fList, ih]
theorem fListW_eq {α β : Type} (f : α → (α → β) → β) (hf : ∀ x k, f x k = k x) (l : List α) (k : List α → β) : fListW f l k = k l := by
  induction l generalizing k with
  | nil => rfl
  | cons x r ih => simp [fListW, ih, hf]

section
variable {α : Type} (z : α)
/-- What stands at a number (so deep a tree at most). -/
def getK : Nat → Tr α → Nat → Option α
  | 0, _, _ => some z
  | _ + 1, .nil, _ => some z
  | _ + 1, .node d _ _, 0 => some d
  | k + 1, .node _ l r, n + 1 => match Nat.beq (Nat.mod n 2) 0 with
    | true => getK k l (Nat.div n 2)
    | false => getK k r (Nat.div n 2)

def putK : Nat → Tr α → Nat → α → Tr α
  | 0, e, _, _ => e
  | _ + 1, .nil, 0, d => .node d .nil .nil
  | _ + 1, .node _ l r, 0, d => .node d l r
  | k + 1, .nil, n + 1, d => match Nat.beq (Nat.mod n 2) 0 with
    | true => .node z (putK k .nil (Nat.div n 2) d) .nil
    | false => .node z .nil (putK k .nil (Nat.div n 2) d)
  | k + 1, .node x l r, n + 1, d => match Nat.beq (Nat.mod n 2) 0 with
    | true => .node x (putK k l (Nat.div n 2) d) r
    | false => .node x l (putK k r (Nat.div n 2) d)

/-- 'putK', evaluated. -/
def fPutK {β : Type} : Nat → Tr α → Nat → α → (Tr α → β) → β
  | 0, e, _, _, f => f e
  | _ + 1, .nil, 0, d, f => f (.node d .nil .nil)
  | _ + 1, .node _ l r, 0, d, f => f (.node d l r)
  | k + 1, .nil, n + 1, d, f => match Nat.beq (Nat.mod n 2) 0 with
    | true => fPutK k .nil (Nat.div n 2) d fun l => f (.node z l .nil)
    | false => fPutK k .nil (Nat.div n 2) d fun r => f (.node z .nil r)
  | k + 1, .node x l r, n + 1, d, f => match Nat.beq (Nat.mod n 2) 0 with
    | true => fPutK k l (Nat.div n 2) d fun l => f (.node x l r)
    | false => fPutK k r (Nat.div n 2) d fun r => f (.node x l r)

theorem fPutK_eq {β : Type} (k : Nat) (e : Tr α) (t : Nat) (d : α) (f : Tr α → β) : fPutK z k e t d f = f (putK z k e t d) := by
  induction k generalizing e t f with
  | zero => cases e <;> simp [fPutK, putK]
  | succ k ih =>
    cases e with
    | nil =>
      cases t with
      | zero => simp [fPutK, putK]
      | succ n => simp only [fPutK, putK]; cases Nat.beq (Nat.mod n 2) 0 <;> simp [ih]
    | node x l r =>
      cases t with
      | zero => simp [fPutK, putK]
      | succ n => simp only [fPutK, putK]; cases Nat.beq (Nat.mod n 2) 0 <;> simp [ih]

theorem getK_nil (k t : Nat) : getK z k (.nil : Tr α) t = some z := by cases k <;> simp [getK]

theorem getK_putK (k : Nat) (e : Tr α) (t t' : Nat) (d : α) (ht : t + 1 < 2 ^ k) : getK z k (putK z k e t d) t' = if t' = t then some d else getK z k e t' := by
  induction k generalizing e t t' with
  | zero => simp at ht
  | succ k ih =>
    have key : ∀ n, n + 1 + 1 < 2 ^ (k + 1) → Nat.div n 2 + 1 < 2 ^ k := by
      intro n hn
      have : n / 2 + 1 < 2 ^ k := by rw [Nat.pow_succ] at hn; omega
      exact this
    have hdiv : ∀ n m : Nat, Nat.beq (Nat.mod n 2) 0 = Nat.beq (Nat.mod m 2) 0 → (Nat.div n 2 = Nat.div m 2 ↔ n = m) := by
      intro n m h
      have h' : (Nat.mod n 2 = 0) ↔ (Nat.mod m 2 = 0) := by
        rw [← Nat.beq_eq, ← Nat.beq_eq, h]
      have a : Nat.mod n 2 = n % 2 := rfl
      have b : Nat.mod m 2 = m % 2 := rfl
      have c : Nat.div n 2 = n / 2 := rfl
      have e : Nat.div m 2 = m / 2 := rfl
      rw [a, b] at h'
      rw [c, e]
      constructor
      · intro hh; omega
      · intro hh; rw [hh]
    cases e with
    | nil =>
      cases t with
      | zero =>
        cases t' with
        | zero => simp [getK, putK]
        | succ n => simp only [putK, getK]; cases Nat.beq (Nat.mod n 2) 0 <;> simp [getK_nil]
      | succ n =>
        cases t' with
        | zero => simp only [putK]; cases Nat.beq (Nat.mod n 2) 0 <;> simp [getK]
        | succ m =>
          simp only [putK, getK]
          cases hn : Nat.beq (Nat.mod n 2) 0 <;> cases hm : Nat.beq (Nat.mod m 2) 0 <;> simp only [getK, hm, getK_nil, ih _ _ _ (key n ht)]
          · have := hdiv m n (by rw [hn, hm]); by_cases h : m = n <;> simp_all
          · have : ¬ m = n := by rintro rfl; rw [hn] at hm; cases hm
            simp [this]
          · have : ¬ m = n := by rintro rfl; rw [hn] at hm; cases hm
            simp [this]
          · have := hdiv m n (by rw [hn, hm]); by_cases h : m = n <;> simp_all
    | node x l r =>
      cases t with
      | zero => cases t' <;> simp [getK, putK]
      | succ n =>
        cases t' with
        | zero => simp only [putK]; cases Nat.beq (Nat.mod n 2) 0 <;> simp [getK]
        | succ m =>
          simp only [putK, getK]
          cases hn : Nat.beq (Nat.mod n 2) 0 <;> cases hm : Nat.beq (Nat.mod m 2) 0 <;> simp only [getK, hm, ih _ _ _ (key n ht)]
          · have := hdiv m n (by rw [hn, hm]); by_cases h : m = n <;> simp_all
          · have : ¬ m = n := by rintro rfl; rw [hn] at hm; cases hm
            simp [this]
          · have : ¬ m = n := by rintro rfl; rw [hn] at hm; cases hm
            simp [this]
          · have := hdiv m n (by rw [hn, hm]); by_cases h : m = n <;> simp_all

end

/-- A datum, evaluated as far as its numbers and its own lists go. -/
def fV {β : Type} (x : V) (k : V → β) : β :=
  match x with
  | .int i n => fInt n fun n => k (.int i n)
  | .bool b => fBool b fun b => k (.bool b)
  | .str s => fList s fun s => k (.str s)
  | .slice nl sz xs => fBool nl fun nl => fNat sz fun sz => fList xs fun xs => k (.slice nl sz xs)
  | .agg cs => fList cs fun cs => k (.agg cs)
  | .tup cs => fList cs fun cs => k (.tup cs)
  | x => k x

def fD {β : Type} (d : D) (k : D → β) : β :=
  match d with
  | .v x => fV x fun x => k (.v x)
  | .ptr s ver off => fNat s fun s => fNat ver fun ver => fNat off fun off => k (.ptr s ver off)
  | .pin q cs => fList cs fun cs => k (.pin q cs)
  | .arr s ver sz off len => fNat s fun s => fNat ver fun ver => fNat sz fun sz => fNat off fun off => fNat len fun len => k (.arr s ver sz off len)
  | .full nl sz xs => fBool nl fun nl => fNat sz fun sz => fList xs fun xs => k (.full nl sz xs)
  | .fn f a b => fList a fun a => fList b fun b => k (.fn f a b)
  | .agg cs => fList cs fun cs => k (.agg cs)
  | .tup cs => fList cs fun cs => k (.tup cs)
  | .yld s ver => fNat s fun s => fNat ver fun ver => k (.yld s ver)
  | .itr s ver => fNat s fun s => fNat ver fun ver => k (.itr s ver)
  | d => k d

def fRec {β : Type} (r : Rec) (k : Rec → β) : β :=
  match r with
  | ⟨ver, some (.box ty cs fz)⟩ => fNat ver fun ver => fListW fD cs fun cs => fNat fz fun fz => k ⟨ver, some (.box ty cs fz)⟩
  | ⟨ver, some (.iter s pos)⟩ => fNat ver fun ver => fNat pos fun pos => k ⟨ver, some (.iter s pos)⟩
  | ⟨ver, some (.loop l)⟩ => fNat ver fun ver => k ⟨ver, some (.loop l)⟩
  | ⟨ver, none⟩ => fNat ver fun ver => k ⟨ver, none⟩

@[simp] theorem fV_eq {β : Type} (x : V) (k : V → β) : fV x k = k x := by cases x <;> simp [fV]
@[simp] theorem fD_eq {β : Type} (d : D) (k : D → β) : fD d k = k d := by cases d <;> simp [fD]
@[simp] theorem fRec_eq {β : Type} (r : Rec) (k : Rec → β) : fRec r k = k r := by
  obtain ⟨ver, obj⟩ := r
  cases obj with
  | none => simp [fRec]
  | some o => cases o <;> simp [fRec, fListW_eq fD fD_eq]
def getO (e : E) (t : Nat) : Option D := getK (.v .undef) 12 e t
def putE (e : E) (t : Nat) (d : D) : E := putK (.v .undef) 12 e t d

/-- Sites have numbers below this one. -/
def maxSite : Nat := 16777215

def getR (st : Sites) (s : Nat) : Option Rec := getK (⟨0, none⟩ : Rec) 24 st s
def verS (st : Sites) (s : Nat) : Nat := match getR st s with | some r => r.ver | none => 0
def setS (st : Sites) (s : Nat) (r : Rec) : Sites := putK (⟨0, none⟩ : Rec) 24 st s r
def fSetS {β : Type} (st : Sites) (s : Nat) (r : Rec) (k : Sites → β) : β := fPutK (⟨0, none⟩ : Rec) 24 st s r k
@[simp] theorem fSetS_eq {β : Type} (st : Sites) (s : Nat) (r : Rec) (k : Sites → β) : fSetS st s r k = k (setS st s r) := by simp [fSetS, setS, fPutK_eq]

/-- What stands at a site, if it is of that version. -/
def look (st : Sites) (s ver : Nat) : Option BObj :=
  match getR st s with
  | some r => (match Nat.beq r.ver ver with | true => r.obj | false => none)
  | none => none

def lookBox (st : Sites) (s ver : Nat) : Option (TypeId × List D × Nat) :=
  match look st s ver with
  | some (.box ty cs fz) => some (ty, cs, fz)
  | _ => none

/-- Deep: a value that a call hands back. -/
def fDeep : Nat → {β : Type} → V → (V → β) → β
  | 0, _, x, k => fV x k
  | n + 1, _, x, k => match x with
    | .slice nl sz xs => fBool nl fun nl => fNat sz fun sz => fListW (fDeep n) xs fun xs => k (.slice nl sz xs)
    | .agg cs => fListW (fDeep n) cs fun cs => k (.agg cs)
    | .tup cs => fListW (fDeep n) cs fun cs => k (.tup cs)
    | x => fV x k
@[simp] theorem fDeep_eq (n : Nat) {β : Type} (x : V) (k : V → β) : fDeep n x k = k x := by
  induction n generalizing x k with
  | zero => simp [fDeep]
  | succ n ih =>
    have h : ∀ (x : V) (k : V → β), fDeep n x k = k x := fun x k => ih x k
    cases x <;> simp [fDeep, fListW_eq _ h]

/-! ### Values -/
def V.cells : V → List V
  | .agg cs => cs
  | x => [x]

def D.cells : D → List D
  | .agg cs => cs
  | .v x => x.cells.map .v
  | d => [d]

def allV : List D → Option (List V)
  | [] => some []
  | .v x :: r => match allV r with | some xs => some (x :: xs) | none => none
  | _ :: _ => none

def mkAgg (ds : List D) : D := match allV ds with | some xs => .v (.agg xs) | none => .agg ds
def mkTup (ds : List D) : D := match allV ds with | some xs => .v (.tup xs) | none => .tup ds

def toBytes : List V → Option (List UInt8)
  | [] => some []
  | .int .u8 n :: r => match toBytes r with | some l => some (UInt8.ofNat n.toNat :: l) | none => none
  | _ :: _ => none

def ofBytes (l : List UInt8) : List V := l.map fun b => .int .u8 b.toNat

/-- An element of so many cells. -/
def elemV (sz : Nat) (l : List V) : V :=
  match l with
  | [x] => if sz = 1 then x else .agg [x]
  | l => .agg l

/-- Cells, grouped by elements. -/
def group (sz : Nat) : Nat → List V → List V
  | 0, _ => []
  | n + 1, cs => elemV sz (cs.take sz) :: group sz n (cs.drop sz)

/-- A datum without references (what is 'full' is a slice). -/
def D.toV : D → Option V
  | .v x => some x
  | .full nl sz xs => some (.slice nl sz xs)
  | .agg cs => match cs.mapM (fun d => match d with | .v x => some x | .full nl sz xs => some (V.slice nl sz xs) | _ => none) with | some xs => some (.agg xs) | none => none
  | _ => none

/-- A constant of the program's text. -/
def constCell : Value → Option V
  | .bool b => some (.bool b)
  | .int k n => some (.int k n)
  | .string s => some (.str s.data.toList)
  | .pointer none => some .nilp
  | .slice none 0 0 => some (.slice true 0 [])
  | .nilFunc => some .nilfn
  | .nilIface => some .nilif
  | _ => none

def constV : Value → Option V
  | .agg cs => match cs.toList.mapM constCell with | some xs => some (.agg xs) | none => none
  | .tuple cs => if cs.size = 0 then some .undef else none
  | v => constCell v

/-! ### The program -/
/-- The kinds of a struct's fields, where its values may be compared field by field. -/
inductive EK where
  | b | i | s
  deriving DecidableEq

/-- What is asked of a type: what it is, its cells, its bytes, its zero value, whether its values may be compared cell by cell. -/
structure TInf where
  desc : TypeDesc
  size : Nat
  bytes : Nat
  zero : Option V
  feq : Option (List EK)

abbrev Tys := TypeId → Option TInf

def und (T : Tys) (t : TypeId) : Option TypeDesc := match T t with | some i => some i.desc | none => none
def cel (T : Tys) (t : TypeId) : Nat := match T t with | some i => i.size | none => 0
def byt (T : Tys) (t : TypeId) : Nat := match T t with | some i => i.bytes | none => 0
def zeroV (T : Tys) (t : TypeId) : Option V := match T t with | some i => i.zero | none => none
def flatEq (T : Tys) (t : TypeId) : Option (List EK) := match T t with | some i => i.feq | none => none

/-- How a function is taken: by its text with an empty store; by its text over the caller's store; by a function of ours; as what hands its argument on; as what makes bytes of no known value; as what inserts into a row. -/
inductive Kind where
  | plain
  | refs
  | keeps
  | nat (g : List V → Option V)
  | ident
  | bytes
  | insert
  deriving Inhabited

structure Par where
  P : Program
  T : Tys
  fn : FuncId → Option Func
  G : Nat → List V
  spec : FuncId → Kind

def isAggT (T : Tys) (t : TypeId) : Bool :=
  match und T t with
  | some (.struct _) | some (.array _ _) => true
  | _ => false

def ev (G : Nat → List V) (env : E) : Operand → Option D
  | .tmp t => getO env t
  | .const c => match constV c with | some x => some (.v x) | none => none
  | .global g => some (.pin true (G g))
  | .func f => some (.fn f [] [])

/-- The element type of a row of which nothing is said. -/
def noTy : TypeId := 4294967295

def big40 : Nat := 1099511627776

def eqCell : EK → V → V → Option Bool
  | .b, .bool a, .bool b => some (a == b)
  | .i, .int k a, .int k' b => if k = k' then some (a == b) else none
  | .s, .str a, .str b => some (a == b)
  | _, _, _ => none

def eqCells : List EK → List V → List V → Option Bool
  | [], [], [] => some true
  | e :: es, a :: x, b :: y => match eqCell e a b with
    | some true => eqCells es x y
    | some false => some false
    | none => none
  | _, _, _ => none

def isConstO : Operand → Bool
  | .const _ => true
  | _ => false

/-- 'k.wrap', quick where nothing is wrapped. -/
def limB : IntKind → Nat
  | .i8 => 128 | .i16 => 32768 | .i32 => 2147483648 | .i64 => 9223372036854775808
  | .u8 => 256 | .u16 => 65536 | .u32 => 4294967296 | .u64 => 18446744073709551616
def wrapB (k : IntKind) (n : Int) : Int :=
  match n with
  | .ofNat m => (match Nat.blt m (limB k) with | true => .ofNat m | false => k.wrap (.ofNat m))
  | .negSucc m => k.wrap (.negSucc m)

def intOp (op : BinOp) (k : IntKind) (a b : Int) : Option V :=
  match op with
  | .add => some (.int k (wrapB k (a + b)))
  | .sub => some (.int k (wrapB k (a - b)))
  | .mul => some (.int k (wrapB k (a * b)))
  | .quo => if b = 0 then none else some (.int k (wrapB k (a.tdiv b)))
  | .rem => if b = 0 then none else some (.int k (a.tmod b))
  | .and => some (.int k (wrapB k (BitVec.ofInt k.bits a &&& BitVec.ofInt k.bits b).toNat))
  | .or => some (.int k (wrapB k (BitVec.ofInt k.bits a ||| BitVec.ofInt k.bits b).toNat))
  | .xor => some (.int k (wrapB k (BitVec.ofInt k.bits a ^^^ BitVec.ofInt k.bits b).toNat))
  | .andNot => some (.int k (wrapB k (BitVec.ofInt k.bits a &&& ~~~ BitVec.ofInt k.bits b).toNat))
  | .eql => some (.bool (a == b))
  | .neq => some (.bool (a != b))
  | .lss => some (.bool (decide (a < b)))
  | .leq => some (.bool (decide (a ≤ b)))
  | .gtr => some (.bool (decide (a > b)))
  | .geq => some (.bool (decide (a ≥ b)))
  | _ => none

def shOp (op : BinOp) (k : IntKind) (a b : Int) : Option V :=
  if b < 0 then none else
  match op with
  | .shl => some (.int k (wrapB k (a * 2 ^ min b.toNat k.bits)))
  | .shr => some (.int k (a.fdiv (2 ^ min b.toNat k.bits)))
  | _ => none

def strOp (op : BinOp) (a b : List UInt8) : Option V :=
  match op with
  | .add => if a.length + b.length ≤ big40 then some (.str (a ++ b)) else none
  | .eql => some (.bool (a == b))
  | .neq => some (.bool (!(a == b)))
  | .lss => some (.bool (Op.bytesLess a b))
  | .leq => some (.bool (Op.bytesLess a b || a == b))
  | .gtr => some (.bool (!(Op.bytesLess a b || a == b)))
  | .geq => some (.bool (!(Op.bytesLess a b)))
  | _ => none

/-! What two data are, held against each other -/
def eqPtr (T : Tys) (e : TypeId) (x y : D) : Option Bool :=
  match x with
  | .v .nilp => (match y with
    | .v .nilp => some true
    | .ptr _ _ _ => some false
    | .pin _ _ => some false
    | _ => none)
  | .ptr s v o => (match y with
    | .v .nilp => some false
    | .ptr s' v' o' => if s = s' ∧ v = v' ∧ o = o' ∧ (T e).isSome then some true else none
    | _ => none)
  | .pin _ _ => (match y with | .v .nilp => some false | _ => none)
  | _ => none

def eqSl (x y : D) : Option Bool :=
  match x with
  | .v (.slice true _ _) => (match y with
    | .v (.slice n _ _) => some n
    | .arr _ _ _ _ _ => some false
    | .full n _ _ => some n
    | _ => none)
  | .v (.slice false _ _) => (match y with | .v (.slice true _ _) => some false | _ => none)
  | .arr _ _ _ _ _ => (match y with | .v (.slice true _ _) => some false | _ => none)
  | .full n _ _ => (match y with | .v (.slice true _ _) => some n | _ => none)
  | _ => none

def eqIf (cst : Bool) (x y : D) : Option Bool :=
  match x with
  | .v .nilif => (match y with
    | .v .nilif => if cst then some true else none
    | .v (.iface _ _) => some false
    | .v .ifany => some false
    | _ => none)
  | .v (.iface _ _) => (match y with | .v .nilif => some false | _ => none)
  | .v .ifany => (match y with | .v .nilif => some false | _ => none)
  | _ => none

def eqFn (x y : D) : Option Bool :=
  match x with
  | .v .nilfn => (match y with
    | .v .nilfn => some true
    | .fn _ _ _ => some false
    | .yld _ _ => some false
    | _ => none)
  | .fn _ _ _ => (match y with | .v .nilfn => some false | _ => none)
  | .yld _ _ => (match y with | .v .nilfn => some false | _ => none)
  | _ => none

def eqD (T : Tys) (t : TypeId) (cst : Bool) (x y : D) : Option Bool :=
  match und T t with
  | some .bool => (match x, y with | .v (.bool a), .v (.bool b) => some (a == b) | _, _ => none)
  | some (.pointer e) => eqPtr T e x y
  | some (.slice _) => eqSl x y
  | some (.interface _) => eqIf cst x y
  | some (.func _ _ _) => eqFn x y
  | some (.struct _) => (match x, y with | .v (.agg a), .v (.agg b) => (match flatEq T t with | some es => eqCells es a b | none => none) | _, _ => none)
  | _ => none

def cmpOp (T : Tys) (op : BinOp) (t : TypeId) (cst : Bool) (x y : D) : Option D :=
  match op with
  | .eql => (match eqD T t cst x y with | some b => some (.v (.bool b)) | none => none)
  | .neq => (match eqD T t cst x y with | some b => some (.v (.bool (!b))) | none => none)
  | _ => none

def intD (op : BinOp) (k k' : IntKind) (a b : Int) : Option V :=
  match op with
  | .shl => shOp op k a b
  | .shr => shOp op k a b
  | _ => if k = k' then intOp op k a b else none

def optV : Option V → Option D
  | some x => some (.v x)
  | none => none

def binD (T : Tys) (op : BinOp) (t : TypeId) (cst : Bool) (x y : D) : Option D :=
  match x with
  | .v (.int k a) => (match y with
    | .v (.int k' b) => optV (intD op k k' a b)
    | _ => none)
  | .v (.str a) => (match y with
    | .v (.str b) => optV (strOp op a b)
    | _ => none)
  | _ => cmpOp T op t cst x y

def unD (op : UnOp) : D → Option D
  | .v (.int k n) => match op with
    | .neg => some (.v (.int k (wrapB k (0 - n))))
    | .xor => some (.v (.int k (wrapB k (BitVec.ofInt k.bits (if k.signed then -1 else k.max) ^^^ BitVec.ofInt k.bits n).toNat)))
    | _ => none
  | .v (.bool b) => match op with | .not => some (.v (.bool (!b))) | _ => none
  | _ => none

/-- A part of an aggregate's cells. -/
def partV (T : Tys) (t : TypeId) (cs : List V) (off : Nat) : Option V :=
  match und T t with
  | some (.struct _) | some (.array _ _) => if off + cel T t ≤ cs.length then some (.agg ((cs.drop off).take (cel T t))) else none
  | some _ => cs[off]?
  | none => none
def partD (T : Tys) (t : TypeId) (cs : List D) (off : Nat) : Option D :=
  match und T t with
  | some (.struct _) | some (.array _ _) => if off + cel T t ≤ cs.length then some (mkAgg ((cs.drop off).take (cel T t))) else none
  | some _ => cs[off]?
  | none => none

/-- Does a datum stand for a value that memory can bear? -/
def oneD : D → Bool
  | .v .undef => false
  | .v (.tup _) => false
  | .tup _ => false
  | _ => true

def asIntD : D → Option Int
  | .v (.int _ n) => some n
  | _ => none

/-- One bound of a slice expression. -/
def bnd (y : Nat) (d : D) : Option Nat :=
  match d with
  | .v (.int _ i) => if 0 ≤ i ∧ i ≤ y then some i.toNat else none
  | _ => none

def bndM (n : Nat) : Option D → Option (Option Nat)
  | some d => (match bnd n d with | some m => some (some m) | none => none)
  | none => some none

def bndH (n : Nat) (mx : Bool) (m : Option Nat) : Option D → Option Nat
  | some d => bnd (m.getD n) d
  | none => if mx then none else some n

def bndL (h : Nat) : Option D → Option Nat
  | some d => bnd h d
  | none => some 0

/-- 'lo', 'hi', 'max' of a slice expression over so many: what is left out, and the bounds. -/
def bounds (n : Nat) (lo hi mx : Option D) : Option (Nat × Nat × Option Nat) :=
  match bndM n mx with
  | none => none
  | some m =>
    match bndH n mx.isSome m hi with
    | none => none
    | some h =>
      match bndL h lo with
      | none => none
      | some l => some (l, h, m)

def optEv (G : Nat → List V) (env : E) : Option Operand → Option (Option D)
  | none => some none
  | some x => match ev G env x with | some d => some (some d) | none => none

/-- Put values over cells (a struct's or array's parts, a slice's elements). -/
def overlay (cells : List D) (off : Nat) (new : List D) : List D := cells.take off ++ new ++ cells.drop (off + new.length)

def fillB (place : Nat → Option (Nat × Nat)) : List D → List (Nat × D) → Option (List D)
  | cells, [] => some cells
  | cells, (i, d) :: rest =>
    match place i with
    | none => none
    | some (off, size) =>
      if oneD d = false ∨ d.cells.length ≠ size ∨ off + d.cells.length > cells.length then none
      else fillB place (overlay cells off d.cells) rest

structure Eff where
  d : D
  wr : Option (Nat × Rec) := none
  rd : List Nat := []

/-- The elements of what is appended or copied: cells. -/
def srcCells (st : Sites) : D → Option (List V × List Nat)
  | .v (.slice _ _ xs) => some (xs.flatMap V.cells, [])
  | .full _ _ xs => some (xs.flatMap V.cells, [])
  | .v (.str s) => some (ofBytes s, [])
  | .arr s ver sz off len =>
    match lookBox st s ver with
    | some (_, cs, _) => if off + len * sz ≤ cs.length then match allV ((cs.drop off).take (len * sz)) with | some l => some (l, [s]) | none => none else none
    | none => none
  | _ => none

def srcLen : D → Option Nat
  | .v (.slice _ _ xs) => some xs.length
  | .full _ _ xs => some xs.length
  | .v (.str s) => some s.length
  | .arr _ _ _ _ len => some len
  | _ => none

/-- What is appended: so many elements, their cells. -/
def appSrc (T : Tys) (e : TypeId) (zeros : Bool) (z : V) (x : D) (st : Sites) : Option (Nat × List V × List Nat) :=
  match zeros with
  | true =>
    (match x with
    | .v (.int _ i) => if 0 ≤ i ∧ i.toNat * byt T e ≤ big40 ∧ i ≤ (big40 : Nat) then some (i.toNat, (List.replicate i.toNat z.cells).flatten, []) else none
    | _ => none)
  | false =>
    match srcLen x, srcCells st x with
    | some n, some (l, rd) => if l.length = n * cel T e then some (n, l, rd) else none
    | _, _ => none

/-- A new row for what is appended. -/
def appNew (T : Tys) (e : TypeId) (site len n : Nat) (old new : List V) (rd : List Nat) (st : Sites) : Option Eff :=
  if len + n ≤ big40 ∧ (len + n) * byt T e ≤ big40 ∧ old.length = len * cel T e then
    some { d := .arr site (verS st site + 1) (cel T e) 0 (len + n), wr := some (site, ⟨verS st site + 1, some (.box e ((old ++ new).map .v) 0)⟩), rd := site :: rd }
  else none

def appTo (T : Tys) (e : TypeId) (site : Nat) (s : D) (n : Nat) (new : List V) (rd : List Nat) (st : Sites) : Option Eff :=
  match s with
  | .v (.slice true _ []) => if n = 0 then some { d := s, rd } else appNew T e site 0 n [] new rd st
  | .v (.slice _ _ _) => if n = 0 then some { d := s, rd } else none
  | .full _ _ xs => if n = 0 then some { d := s, rd } else appNew T e site xs.length n (xs.flatMap V.cells) new rd st
  | .arr a ver sz' off len =>
    if n = 0 then some { d := s, rd }
    else if sz' = cel T e then
      match lookBox st a ver with
      | some (ty, cs, fz) =>
        if off + len * cel T e ≤ cs.length ∧ fz ≤ off + len * cel T e ∧ len + n ≤ big40 ∧ (len + n) * byt T e ≤ big40 then
          some { d := .arr a (ver + 1) (cel T e) 0 (len + n), wr := some (a, ⟨ver + 1, some (.box (if off = 0 ∧ ty = e then e else noTy) (((cs.take (off + len * cel T e)).drop off) ++ new.map .v) (fz - off))⟩), rd := a :: rd }
        else none
      | none => none
    else none
  | _ => none

def isIntT : TypeDesc → Bool
  | .int _ => true
  | _ => false

def effAppend (T : Tys) (argTypes : Array TypeId) (site : Nat) (s x : D) (st : Sites) : Option Eff :=
  match argTypes[0]?, argTypes[1]? with
  | some t, some xt =>
    (match und T t, und T xt with
    | some (.slice e), some k =>
      (match zeroV T e with
      | some z =>
        if cel T e = 0 ∨ z.cells.length ≠ cel T e ∨ oneD (.v z) = false then none else
        (match appSrc T e (isIntT k) z x st with
        | some (n, new, rd) => appTo T e site s n new rd st
        | none => none)
      | none => none)
    | _, _ => none)
  | _, _ => none

def copyTo (sz m : Nat) (l : List V) (rd : List Nat) (dst : D) (st : Sites) : Option Eff :=
  match dst with
  | .arr a ver sz' off len =>
    if min m len = 0 then some { d := .v (.int .i64 0), rd }
    else if sz' = sz then
      match lookBox st a ver with
      | some (ty, cs, fz) =>
        if off + len * sz ≤ cs.length ∧ fz ≤ off then
          some { d := .v (.int .i64 (min m len : Nat)), wr := some (a, ⟨ver, some (.box ty (overlay cs off ((l.take (min m len * sz)).map .v)) fz)⟩), rd := a :: rd }
        else none
      | none => none
    else none
  | .v (.slice _ _ []) => some { d := .v (.int .i64 0), rd }
  | .full _ _ [] => some { d := .v (.int .i64 0), rd }
  | _ => none

def effCopy (T : Tys) (argTypes : Array TypeId) (dst src : D) (st : Sites) : Option Eff :=
  match argTypes[0]? with
  | some t =>
    (match und T t with
    | some (.slice e) =>
      if cel T e = 0 then none else
      (match srcLen src, srcCells st src with
      | some m, some (l, rd) => if l.length = m * cel T e then copyTo (cel T e) m l rd dst st else none
      | _, _ => none)
    | _ => none)
  | none => none

def lenB (T : Tys) (t : TypeId) (x : D) : Option Nat :=
  match und T t with
  | some (.array n _) => some n
  | some (.pointer a) => match und T a with | some (.array n _) => some n | _ => none
  | some .string => match x with | .v (.str s) => some s.length | _ => none
  | some (.slice _) => match x with
    | .v (.slice _ _ xs) => some xs.length
    | .full _ _ xs => some xs.length
    | .arr _ _ _ _ len => some len
    | _ => none
  | _ => none

/-- A string of a row's bytes, which stay as they are from then on. -/
def strAt (T : Tys) (argTypes : Array TypeId) (s ver off : Nat) (n : Int) (st : Sites) : Option Eff :=
  match argTypes[0]? with
  | some pt =>
    (match und T pt with
    | some (.pointer e) =>
      (match lookBox st s ver with
      | some (ty, cs, _) =>
        if ty = e ∧ ty ≠ noTy ∧ cel T e = 1 ∧ 0 < n ∧ n ≤ (big40 : Nat) ∧ off + n.toNat ≤ cs.length then
          (match allV cs with
          | some l => (match toBytes ((l.drop off).take n.toNat) with
            | some bs => some { d := .v (.str bs), wr := some (s, ⟨ver, some (.box ty cs cs.length)⟩), rd := [s] }
            | none => none)
          | none => none)
        else none
      | none => none)
    | _ => none)
  | none => none

/-- Where a slice's elements lie. -/
def sliceDataB : D → Option D
  | .v (.slice true _ _) => some (.v .nilp)
  | .arr s ver _ off len => if len = 0 then none else some (.ptr s ver off)
  | .full false _ (_ :: _) => some .anyp
  | .v (.slice false _ (_ :: _)) => some .anyp
  | _ => none

def effBuiltin (par : Par) (fb : Nat) (odst : Option Tmp) (b : Builtin) (argTypes : Array TypeId) (args : List D) (st : Sites) : Option Eff :=
  match b, args with
  | .len, [x] => do
    let t ← argTypes[0]?
    let n ← lenB par.T t x
    some { d := .v (.int .i64 n) }
  | .cap, [x] => (match argTypes[0]? with
    | some t => (match und par.T t, x with
      | some (.slice _), .v (.slice true _ []) => some { d := .v (.int .i64 0) }
      | some (.slice _), .full _ _ xs => some { d := .v (.int .i64 xs.length) }
      | _, _ => none)
    | none => none)
  | .min, [.v (.int k a), .v (.int _ b)] => some { d := .v (.int k (if b < a then b else a)) }
  | .max, [.v (.int k a), .v (.int _ b)] => some { d := .v (.int k (if a < b then b else a)) }
  | .append, [s, x] => match odst with | some dst => effAppend par.T argTypes (fb + dst) s x st | none => none
  | .copy, [d, x] => effCopy par.T argTypes d x st
  | .unsafeSliceData, [x] => (match sliceDataB x with
    | some d => some { d }
    | none => none)
  | .unsafeString, [p, .v (.int _ n)] =>
    if n = 0 then (match argTypes[0]? with
      | some _ => (match p with
        | .v .nilp => some { d := .v (.str []) }
        | .anyp => some { d := .v (.str []) }
        | .ptr _ _ _ => some { d := .v (.str []) }
        | .pin _ _ => some { d := .v (.str []) }
        | _ => none)
      | none => none)
    else match p with
      | .ptr s ver off => strAt par.T argTypes s ver off n st
      | _ => none
  | _, _ => none

def fieldOf (T : Tys) (t : TypeId) (f : Nat) : Option Field :=
  match und T t with
  | some (.struct fs) => fs[f]?
  | _ => none

/-! ### The operations that enter no function, each: what it gives, what it writes, which sites it looks at -/
def opCopy (par : Par) (env : E) (x : Operand) : Option Eff :=
  match ev par.G env x with
  | some d => some { d }
  | none => none

def opPick (par : Par) (env : E) (c a b : Operand) : Option Eff :=
  match ev par.G env c with
  | some (.v (.bool true)) => opCopy par env a
  | some (.v (.bool false)) => opCopy par env b
  | _ => none

/-- A new variable at a site. -/
def newBox (st : Sites) (s : Nat) (e : TypeId) (cells : List D) : Eff :=
  { d := .ptr s ((verS st s) + 1) 0, wr := some (s, ⟨(verS st s) + 1, some (.box e cells 0)⟩), rd := [s] }

def opAlloc (par : Par) (fb : Nat) (dst : Option Tmp) (st : Sites) (e : TypeId) : Option Eff :=
  match zeroV par.T e, dst with
  | some z, some t => if oneD (.v z) ∧ z.cells.length = cel par.T e then some (newBox st (fb + t) e (z.cells.map .v)) else none
  | _, _ => none

def opBox (par : Par) (fb : Nat) (dst : Option Tmp) (env : E) (st : Sites) (e : TypeId) (x : Operand) : Option Eff :=
  match ev par.G env x, dst with
  | some d, some t => if oneD d ∧ d.cells.length = cel par.T e then some (newBox st (fb + t) e d.cells) else none
  | _, _ => none

def evParts (G : Nat → List V) (env : E) : List (Nat × Operand) → Option (List (Nat × D))
  | [] => some []
  | (i, x) :: r => match ev G env x with
    | some d => match evParts G env r with | some l => some ((i, d) :: l) | none => none
    | none => none

def structPlace (T : Tys) (fs : Array Field) (i : Nat) : Option (Nat × Nat) :=
  match fs[i]? with
  | some f => some (f.offset, cel T f.type)
  | none => none

def opBuild (par : Par) (env : E) (t : TypeId) (parts : List (Nat × Operand)) : Option Eff :=
  match zeroV par.T t, evParts par.G env parts with
  | some z, some ps =>
    if oneD (.v z) = false then none else
    match und par.T t with
    | some (.struct fs) => (match fillB (structPlace par.T fs) (z.cells.map .v) ps with | some cs => some { d := mkAgg cs } | none => none)
    | some (.array _ e) => (match fillB (fun i => some (i * cel par.T e, cel par.T e)) (z.cells.map .v) ps with | some cs => some { d := mkAgg cs } | none => none)
    | _ => none
  | _, _ => none

def opLoad (par : Par) (env : E) (st : Sites) (t : TypeId) (a : Operand) : Option Eff :=
  match ev par.G env a with
  | some (.ptr s ver off) =>
    (match lookBox st s ver with
    | some (_, cs, _) => (match partD par.T t cs off with | some d => some { d, rd := [s] } | none => none)
    | none => none)
  | some (.pin _ cs) => (match partV par.T t cs 0 with | some x => some { d := .v x } | none => none)
  | _ => none

def opStore (par : Par) (env : E) (st : Sites) (t : TypeId) (a x : Operand) : Option Eff :=
  match ev par.G env a, ev par.G env x with
  | some (.ptr s ver off), some d =>
    (match lookBox st s ver with
    | some (ty, cs, fz) =>
      if oneD d ∧ (und par.T t).isSome ∧ d.cells.length = cel par.T t ∧ fz ≤ off ∧ off + d.cells.length ≤ cs.length then
        some { d := .v .undef, wr := some (s, ⟨ver, some (.box ty (overlay cs off d.cells) fz)⟩), rd := [s] }
      else none
    | none => none)
  | _, _ => none

def opNil (par : Par) (env : E) (x : Operand) : Option Eff :=
  match ev par.G env x with
  | some (.ptr s ver off) => some { d := .ptr s ver off }
  | some (.pin k cs) => some { d := .pin k cs }
  | some (.fn f a b) => some { d := .fn f a b }
  | some (.yld s v) => some { d := .yld s v }
  | _ => none

def opBin (par : Par) (env : E) (op : BinOp) (t : TypeId) (x y : Operand) : Option Eff :=
  match ev par.G env x, ev par.G env y with
  | some a, some b => (match binD par.T op t (isConstO x || isConstO y) a b with | some d => some { d } | none => none)
  | _, _ => none

def opUn (par : Par) (env : E) (op : UnOp) (x : Operand) : Option Eff :=
  match ev par.G env x with
  | some a => (match unD op a with | some d => some { d } | none => none)
  | none => none

def bytesOf (st : Sites) (x : D) : Option (List UInt8 × List Nat) :=
  match x with
  | .v (.slice nl _ xs) => (match toBytes xs with | some b => some (b, []) | none => none)
  | .full nl _ xs => (match toBytes xs with | some b => some (b, []) | none => none)
  | .arr s ver sz off len =>
    (match srcCells st x with
    | some (l, rd) => if sz = 1 ∧ l.length = len then (match toBytes l with | some b => some (b, rd) | none => none) else none
    | none => none)
  | _ => none

def isByteT (T : Tys) (t : TypeId) : Bool :=
  match und T t with
  | some (.int .u8) => true
  | _ => false

def convUnsafe (T : Tys) (st : Sites) (src dst : TypeDesc) (x : D) : Option Eff :=
  match src with
  | .pointer t =>
    (match dst, x with
    | .unsafePointer, .ptr s ver off =>
      (match lookBox st s ver with
      | some (_, cs, _) => if off < cs.length ∧ cel T t ≠ 0 then some { d := x, rd := [s] } else none
      | none => none)
    | _, _ => none)
  | .unsafePointer =>
    (match dst, x with
    | .pointer u, .ptr s ver off =>
      (match lookBox st s ver with
      | some (ty, cs, _) => if ty = u ∧ ty ≠ noTy ∧ off = 0 ∧ cel T u ≠ 0 ∧ cs.length = cel T u then some { d := x, rd := [s] } else none
      | none => none)
    | _, _ => none)
  | _ => none

def convD (T : Tys) (st : Sites) (src dst : TypeDesc) (x : D) : Option Eff :=
  match x with
  | .v (.int _ n) => (match dst with | .int k => some { d := .v (.int k (wrapB k n)) } | _ => none)
  | .v (.str s) =>
    (match dst with
    | .string => some { d := x }
    | .slice e => if isByteT T e then some { d := .v (.slice false 1 (ofBytes s)) } else none
    | _ => none)
  | .ptr _ _ _ => convUnsafe T st src dst x
  | _ =>
    (match src, dst with
    | .slice e, .string => if isByteT T e then (match bytesOf st x with | some (b, rd) => some { d := .v (.str b), rd } | none => none) else none
    | _, _ => none)

def opConv (par : Par) (env : E) (st : Sites) (src dst : TypeId) (x : Operand) : Option Eff :=
  match ev par.G env x, und par.T src, und par.T dst with
  | some d, some s, some t => convD par.T st s t d
  | _, _, _ => none

def opIface (par : Par) (env : E) (t : TypeId) (x : Operand) : Option Eff :=
  match ev par.G env x with
  | some d => (match d.toV, und par.T t with
    | some x, some (.interface _) => none
    | some x, some _ => some { d := .v (.iface t x) }
    | _, _ => none)
  | none => none

def mapEv (G : Nat → List V) (env : E) : List Operand → Option (List D)
  | [] => some []
  | x :: r => match ev G env x with
    | some d => match mapEv G env r with | some ds => some (d :: ds) | none => none
    | none => none

def opFunc (par : Par) (env : E) (fn : Fn) (first caps : List Operand) : Option Eff :=
  match fn with
  | .func f => (match mapEv par.G env first, mapEv par.G env caps with
    | some a, some b => some { d := .fn f a b }
    | _, _ => none)
  | _ => none

def opMake (par : Par) (fb : Nat) (dst : Option Tmp) (env : E) (st : Sites) (t : TypeId) (l c : Operand) : Option Eff :=
  match und par.T t, ev par.G env l, ev par.G env c, dst with
  | some (.slice e), some (.v (.int _ n)), some (.v (.int _ m)), some dst =>
    (match zeroV par.T e with
    | some z =>
      if 0 ≤ n ∧ n ≤ m ∧ m ≤ (big40 : Nat) ∧ m.toNat * byt par.T e ≤ big40 ∧ oneD (.v z) ∧ z.cells.length = cel par.T e ∧ cel par.T e ≠ 0 then
        some { d := .arr (fb + dst) ((verS st (fb + dst)) + 1) (cel par.T e) 0 n.toNat, wr := some (fb + dst, ⟨(verS st (fb + dst)) + 1, some (.box e ((List.replicate n.toNat z.cells).flatten.map .v) 0)⟩), rd := [fb + dst] }
      else none
    | none => none)
  | _, _, _, _ => none

def sliceArr (T : Tys) (st : Sites) (n : Nat) (e : TypeId) (d : D) (lo hi mx : Option D) : Option Eff :=
  if mx.isSome ∨ cel T e = 0 then none else
  match bounds n lo hi none with
  | some (l, h, _) =>
    (match d with
    | .ptr s ver off =>
      (match lookBox st s ver with
      | some (_, cs, _) => if off + n * cel T e ≤ cs.length then some { d := .arr s ver (cel T e) (off + l * cel T e) (h - l), rd := [s] } else none
      | none => none)
    | .pin true cs => if n * cel T e ≤ cs.length then some { d := .v (.slice false (cel T e) (group (cel T e) (h - l) (cs.drop (l * cel T e)))) } else none
    | _ => none)
  | none => none

def sliceRow (T : Tys) (e : TypeId) (s ver sz off : Nat) (b : Nat × Nat × Option Nat) : Option Eff :=
  if sz ≠ cel T e ∨ sz = 0 then none else some { d := .arr s ver sz (off + b.1 * sz) (b.2.1 - b.1) }

def sliceD (T : Tys) (e : TypeId) (d : D) (lo hi mx : Option D) : Option Eff :=
  match d with
  | .v (.slice nl sz xs) =>
    if cel T e = 0 ∨ (xs.length ≠ 0 ∧ sz ≠ cel T e) then none else
    (match bounds xs.length lo hi mx with
    | some (l, h, m) => some { d := if m = some h then .full nl sz ((xs.take h).drop l) else .v (.slice nl sz ((xs.take h).drop l)) }
    | none => none)
  | .full nl sz xs =>
    if cel T e = 0 ∨ (xs.length ≠ 0 ∧ sz ≠ cel T e) then none else
    (match bounds xs.length lo hi mx with
    | some (l, h, m) => some { d := if m = some h ∨ (m = none ∧ h = xs.length) then .full nl sz ((xs.take h).drop l) else .v (.slice nl sz ((xs.take h).drop l)) }
    | none => none)
  | .arr s ver sz off len =>
    (match bounds len lo hi mx with
    | some b => sliceRow T e s ver sz off b
    | none => none)
  | _ => none

def sliceStr (d : D) (lo hi mx : Option D) : Option Eff :=
  match d, mx with
  | .v (.str s), none => (match bounds s.length lo hi none with
    | some (l, h, _) => some { d := .v (.str ((s.take h).drop l)) }
    | none => none)
  | _, _ => none

def opSlice (par : Par) (env : E) (st : Sites) (t : TypeId) (x : Operand) (lo hi mx : Option Operand) : Option Eff :=
  match ev par.G env x, optEv par.G env lo, optEv par.G env hi, optEv par.G env mx with
  | some d, some lo, some hi, some mx =>
    (match und par.T t with
    | some .string => sliceStr d lo hi mx
    | some (.slice e) => sliceD par.T e d lo hi mx
    | some (.array n e) => sliceArr par.T st n e d lo hi mx
    | some (.pointer a) => (match und par.T a with
      | some (.array n e) => sliceArr par.T st n e d lo hi mx
      | _ => none)
    | _ => none)
  | _, _, _, _ => none

def opFieldAddr (par : Par) (env : E) (t : TypeId) (x : Operand) (f : Nat) : Option Eff :=
  match fieldOf par.T t f, ev par.G env x with
  | some fl, some d =>
    if cel par.T fl.type = 0 then none else
    (match d with
    | .ptr s ver off => some { d := .ptr s ver (off + fl.offset) }
    | .pin k cs => some { d := .pin k (cs.drop fl.offset) }
    | _ => none)
  | _, _ => none

def opField (par : Par) (env : E) (t : TypeId) (x : Operand) (f : Nat) : Option Eff :=
  match fieldOf par.T t f, ev par.G env x with
  | some fl, some d =>
    (match d with
    | .v (.agg cs) => (match partV par.T fl.type cs fl.offset with | some x => some { d := .v x } | none => none)
    | .agg cs => (match partD par.T fl.type cs fl.offset with | some x => some { d := x } | none => none)
    | _ => none)
  | _, _ => none

def addrArr (T : Tys) (m : Nat) (e : TypeId) (d : D) (n : Int) : Option Eff :=
  if n ≥ m ∨ cel T e = 0 then none else
  match d with
  | .ptr s ver off => some { d := .ptr s ver (off + n.toNat * cel T e) }
  | .pin k cs => some { d := .pin k (cs.drop (n.toNat * cel T e)) }
  | _ => none

def addrElem (T : Tys) (e : TypeId) (sz : Nat) (xs : List V) (n : Nat) : Option Eff :=
  match xs[n]? with
  | some x => if sz = cel T e then some { d := .pin true x.cells } else none
  | none => none

def addrSlice (T : Tys) (e : TypeId) (d : D) (n : Int) : Option Eff :=
  match d with
  | .v (.slice _ sz xs) => addrElem T e sz xs n.toNat
  | .full _ sz xs => addrElem T e sz xs n.toNat
  | .arr s ver sz off len => if n < len ∧ sz = cel T e ∧ sz ≠ 0 then some { d := .ptr s ver (off + n.toNat * sz) } else none
  | _ => none

def opIndexAddr (par : Par) (env : E) (t : TypeId) (x i : Operand) : Option Eff :=
  match ev par.G env x, ev par.G env i with
  | some d, some (.v (.int _ n)) =>
    if n < 0 then none else
    (match und par.T t with
    | some (.array m e) => addrArr par.T m e d n
    | some (.slice e) => addrSlice par.T e d n
    | _ => none)
  | _, _ => none

def opIndex (par : Par) (env : E) (t : TypeId) (x i : Operand) : Option Eff :=
  match ev par.G env x, ev par.G env i with
  | some (.v (.str s)), some (.v (.int _ n)) =>
    if n < 0 then none else (match s[n.toNat]?, und par.T t with | some b, some .string => some { d := .v (.int .u8 b.toNat) } | _, _ => none)
  | some (.v (.agg cs)), some (.v (.int _ n)) =>
    if n < 0 then none else
    (match und par.T t with
    | some (.array m e) => if n < m then (match partV par.T e cs (n.toNat * cel par.T e) with | some x => some { d := .v x } | none => none) else none
    | _ => none)
  | _, _ => none

def opRange (par : Par) (fb : Nat) (dst : Option Tmp) (env : E) (st : Sites) (t : TypeId) (x : Operand) : Option Eff :=
  match ev par.G env x, dst, und par.T t with
  | some (.v (.str s)), some dst, some .string =>
    some { d := .itr (fb + dst) ((verS st (fb + dst)) + 1), wr := some (fb + dst, ⟨(verS st (fb + dst)) + 1, some (.iter s 0)⟩), rd := [fb + dst] }
  | _, _, _ => none

def opNext (par : Par) (env : E) (st : Sites) (it : Operand) : Option Eff :=
  match ev par.G env it with
  | some (.itr s ver) =>
    (match look st s ver with
    | some (.iter b pos) =>
      if pos < b.length then
        some { d := .v (.tup [.bool true, .int .i64 pos, .int .i32 (Utf8.decode ⟨b.toArray⟩ pos).1]), wr := some (s, ⟨ver, some (.iter b (pos + (Utf8.decode ⟨b.toArray⟩ pos).2))⟩), rd := [s] }
      else some { d := .v (.tup [.bool false]), rd := [s] }
    | _ => none)
  | _ => none

def opExtract (par : Par) (env : E) (t : Operand) (i : Nat) : Option Eff :=
  match ev par.G env t with
  | some (.v (.tup l)) => (match l[i]? with | some x => some { d := .v x } | none => none)
  | some (.tup l) => (match l[i]? with | some d => some { d } | none => none)
  | _ => none

def opBuiltin (par : Par) (fb : Nat) (dst : Option Tmp) (env : E) (st : Sites) (b : Builtin) (args : List Operand) (argTypes : Array TypeId) : Option Eff :=
  match mapEv par.G env args with
  | some l => effBuiltin par fb dst b argTypes l st
  | none => none

end Go.BI
/- THE INTERPRETER 'B', second part: calls, regions, loops. Definitions alone. -/
set_option linter.unusedVariables false
namespace Go.BI
open Go

inductive Ex where
  | normal
  | exit (id : Nat)
  | goto (l : Nat)
  | ret
  deriving Inhabited, DecidableEq

/-- What the interpreter of code answers: how it is left, the temporaries, the store. -/
abbrev Run := Code → Nat → E → St → Option (Ex × E × St)

def put (env : E) (dst : Option Tmp) (d : D) : E :=
  match dst with
  | some t => putE env t d
  | none => env

/-- 'put', evaluated. -/
def fPut {β : Type} (env : E) (dst : Option Tmp) (d : D) (k : E → β) : β :=
  match dst with
  | some t => fPutK (.v .undef) 12 env t d k
  | none => k env
@[simp] theorem fPut_eq {β : Type} (env : E) (dst : Option Tmp) (d : D) (k : E → β) : fPut env dst d k = k (put env dst d) := by
  cases dst <;> simp [fPut, put, putE, fPutK_eq]

/-- A frame's temporaries, as a call begins. -/
def mkEnv : List D → Nat → E → E
  | [], _, e => e
  | d :: r, t, e => mkEnv r (t + 1) (putE e t d)

def fEnv {β : Type} : List D → Nat → E → (E → β) → β
  | [], _, e, k => k e
  | d :: r, t, e, k => fPutK (.v .undef) 12 e t d fun e => fEnv r (t + 1) e k
@[simp] theorem fEnv_eq {β : Type} (l : List D) (t : Nat) (e : E) (k : E → β) : fEnv l t e k = k (mkEnv l t e) := by
  induction l generalizing t e with
  | nil => rfl
  | cons d r ih => simp [fEnv, mkEnv, fPutK_eq, putE, ih]

/-- Each of a list, frozen by 'f'. -/
def freezeL (f : D → Sites → Option (V × Sites)) : List D → Sites → Option (List V × Sites)
  | [], st => some ([], st)
  | d :: r, st =>
    match f d st with
    | some (x, st) => match freezeL f r st with
      | some (xs, st) => some (x :: xs, st)
      | none => none
    | none => none

/-- A value without references, out of the store: rows are frozen, and what stands in them. -/
def freezeN : Nat → D → Sites → Option (V × Sites)
  | 0, d, st => match d with
    | .v x => some (x, st)
    | .full nl sz xs => some (.slice nl sz xs, st)
    | _ => none
  | n + 1, d, st => match d with
    | .v x => some (x, st)
    | .full nl sz xs => some (.slice nl sz xs, st)
    | .arr s ver sz off len =>
      match lookBox st s ver with
      | some (_, cs, _) =>
        if sz ≠ 0 ∧ off + len * sz ≤ cs.length then
          match freezeL (freezeN n) ((cs.drop off).take (len * sz)) st with
          | some (l, st1) =>
            match lookBox st1 s ver with
            | some (ty, cs1, _) =>
              if off + len * sz ≤ cs1.length then some (.slice false sz (group sz len l), setS st1 s ⟨ver, some (.box ty (overlay cs1 off (l.map .v)) cs1.length)⟩) else none
            | none => none
          | none => none
        else none
      | none => none
    | .agg ds => match freezeL (freezeN n) ds st with | some (xs, st) => some (.agg xs, st) | none => none
    | .tup ds => match freezeL (freezeN n) ds st with | some (xs, st) => some (.tup xs, st) | none => none
    | _ => none

def freeze (d : D) (st : Sites) : Option (V × Sites) := freezeN 30 d st

def noRefs (ds : List D) : Bool := ds.all fun d => match d with | .v _ => true | _ => false

/-- How many cells a pointer of a type shows. -/
def shows (T : Tys) (t : Option TypeId) : Option Nat :=
  match t with
  | some t => match und T t with
    | some (.pointer e) => some (cel T e)
    | _ => none
  | none => none

/-- An argument of a call that shall not touch the caller's store: a pointer is handed on as what it shows now. -/
def argC (T : Tys) (t : Option TypeId) : D → Sites → Option (D × Sites)
  | .pin k cs, st => some (.pin k cs, st)
  | .fn f a b, st => if noRefs a && noRefs b then some (.fn f a b, st) else none
  | .ptr s ver off, st =>
    match shows T t, lookBox st s ver with
    | some n, some (ty, cs, fz) => if off + n ≤ cs.length then
        match freezeL freeze ((cs.drop off).take n) st with | some (l, st) => some (.pin false l, st) | none => none
      else none
    | _, _ => none
  | d, st => match freeze d st with | some (x, st) => some (.v x, st) | none => none

def argsC (T : Tys) : List TypeId → List D → Sites → Option (List D × Sites)
  | _, [], st => some ([], st)
  | ts, d :: r, st =>
    match argC T ts.head? d st with
    | some (x, st) => match argsC T ts.tail r st with
      | some (xs, st) => some (x :: xs, st)
      | none => none
    | none => none

def paramsOf (par : Par) (f : FuncId) : List TypeId := match par.fn f with | some fn => fn.params.toList | none => []

/-- A function's results out of its frame. -/
def resOf (T : Tys) (env : E) (st : Sites) : ResultVar → Option D
  | .tmp t => getO env t
  | .cell a t =>
    match getO env a with
    | some (.ptr s ver off) => match lookBox st s ver with
      | some (_, cs, _) => partD T t cs off
      | none => none
    | some (.pin _ cs) => match partV T t cs 0 with | some x => some (.v x) | none => none
    | _ => none

def resAll (T : Tys) (env : E) (st : Sites) : List ResultVar → Option (List D)
  | [] => some []
  | r :: l => match resOf T env st r with
    | some d => match resAll T env st l with | some ds => some (d :: ds) | none => none
    | none => none

def results (T : Tys) (fn : Func) (env : E) (st : Sites) : Option D :=
  match resAll T env st fn.results.toList with
  | some [d] => some d
  | some ds => some (mkTup ds)
  | none => none

/-- A function's text, run with an empty store. -/
def callT (par : Par) (run : Run) (f : FuncId) (args : List D) : Option V :=
  match par.fn f with
  | some fn => match fn.body, Nat.ble args.length fn.ntmps with
    | some body, true =>
      match fEnv args 0 .nil fun env => run body 0 env ⟨.nil, fn.ntmps + args.length, 0⟩ with
      | some (.normal, env, st) | some (.ret, env, st) =>
        match results par.T fn env st.sites with
        | some d => match freeze d st.sites with | some (x, _) => fDeep 30 x fun x => some x | none => none
        | none => none
      | _ => none
    | _, _ => none
  | none => none

/-- A call that begins with an empty store. -/
def callC (par : Par) (run : Run) (f : FuncId) (args : List D) : Option V :=
  match par.spec f with
  | .nat g => match allV args with | some l => g l | none => none
  | .plain => callT par run f args
  | _ => none

/-- The top behind a call, a round or a loop's turn: as it was, or as low as it may be. -/
def topS (st : St) (top : Nat) : Nat := match Nat.ble st.low top with | true => top | false => st.low

/-- Leave a frame: its sites are free again, unless what is handed back shows them, or they are to be kept. -/
def leaveC (keep : Bool) (d : D) (st : St) (top : Nat) : D × St :=
  match keep with
  | true => (d, ⟨st.sites, st.top, st.top⟩)
  | false => match d with
    | .v x => (.v x, ⟨st.sites, topS st top, st.low⟩)
    | d => (d, st)

/-- A call over the caller's store. -/
def callO (par : Par) (run : Run) (keep : Bool) (f : FuncId) (args : List D) (st : St) : Option (D × St) :=
  match par.fn f with
  | some fn => match fn.body, Nat.ble args.length fn.ntmps with
    | some body, true =>
      match fEnv args 0 .nil fun env => fNat st.top fun fb => fNat (fb + fn.ntmps + args.length) fun top => run body fb env ⟨st.sites, top, st.low⟩ with
      | some (.normal, env, st') | some (.ret, env, st') =>
        match results par.T fn env st'.sites with
        | some d => some (leaveC keep d st' st.top)
        | none => none
      | _ => none
    | _, _ => none
  | none => none

/-- Bytes of no known value, as long as is asked. -/
def mkBytes (par : Par) (f : FuncId) (args : List D) (st : St) : Option (D × St) :=
  match args, (par.fn f).bind (fun fn => (fn.resultTypes[0]?).bind (und par.T)) with
  | [.v (.int .i64 n)], some (.slice e) =>
    if 0 ≤ n ∧ n ≤ (big40 : Nat) ∧ cel par.T e = 1 ∧ st.top < maxSite then
      some (.arr st.top (verS st.sites st.top + 1) 1 0 n.toNat, ⟨setS st.sites st.top ⟨verS st.sites st.top + 1, some (.box e (List.replicate n.toNat (.v .undef)) 0)⟩, st.top + 1, st.low⟩)
    else none
  | _, _ => none

/-- A slice's elements of one cell each, as data. -/
def dataSl : D → Option (List V)
  | .v (.slice false _ xs) => some (xs.flatMap V.cells)
  | .full false _ xs => some (xs.flatMap V.cells)
  | _ => none

/-- 'slices.Insert' into a row of the store. -/
def insRow (par : Par) (f : FuncId) (args : List D) (st : St) : Option (D × St) :=
  match args, (par.fn f).bind (fun fn => (fn.params[0]?).bind (und par.T)) with
  | [.arr a ver sz off len, .v (.int .i64 i), x], some (.slice e) =>
    match dataSl x, srcLen x, lookBox st.sites a ver with
    | some l, some m, some (_, cs, fz) =>
      if a < maxSite ∧ 0 ≤ i ∧ i < len ∧ sz = 1 ∧ cel par.T e = 1 ∧ byt par.T e = 8 ∧ l.length = m ∧ 0 < m ∧ off + len ≤ cs.length ∧ fz = 0 ∧ len + m ≤ big40 then
        some (.arr a (ver + 1) 1 0 (len + m), ⟨setS st.sites a ⟨ver + 1, some (.box noTy (((cs.drop off).take len).take i.toNat ++ l.map .v ++ ((cs.drop off).take len).drop i.toNat) 0)⟩, st.top, st.low⟩)
      else none
    | _, _, _ => none
  | _, _ => none

def callF (par : Par) (run : Run) (f : FuncId) (args : List D) (st : St) : Option (D × St) :=
  match par.spec f with
  | .ident =>
    match args with
    | [.ptr s v o] => some (.ptr s v o, st)
    | _ => none
  | .bytes => mkBytes par f args st
  | .insert => insRow par f args st
  | .refs => callO par run false f args st
  | .keeps => callO par run true f args st
  | _ => match argsC par.T (paramsOf par f) args st.sites with
    | some (as, sites) => match callC par run f as with
      | some x => some (.v x, ⟨sites, st.top, st.low⟩)
      | none => none
    | none => callO par run false f args st

def jumpCode : Ex → Option Code
  | .normal => none
  | .exit id => some (.exit id)
  | .goto l => some (.goto l)
  | .ret => some .ret

def jumpEx : Option Code → Option Ex
  | none => some .normal
  | some (.exit id) => some (.exit id)
  | some (.goto l) => some (.goto l)
  | some .ret => some .ret
  | _ => none

def setAll (env : E) : List (Tmp × D) → E
  | [] => env
  | (t, d) :: r => setAll (putE env t d) r

/-- A call of a loop's yield: one round of its body. -/
def round (run : Run) (s ver : Nat) (args : List D) (st : St) : Option (D × St) :=
  match look st.sites s ver with
  | some (.loop l) =>
    if args.length ≠ l.params.length then none else
    if l.state = .ready then
      match run l.assign l.fb (setAll l.env (l.params.zip args)) st with
      | some (.normal, env, st1) =>
        match look st1.sites s ver with
        | some (.loop l1) => if l1.state = .ready then
            match run l.body l.fb env ⟨setS st1.sites s ⟨ver, some (.loop { l1 with state := .busy })⟩, st1.top, st1.low⟩ with
            | some (e, _, st2) =>
              match look st2.sites s ver with
              | some (.loop l2) => some (.v (.bool (jumpCode e).isNone), ⟨setS st2.sites s ⟨ver, some (.loop { l2 with state := if (jumpCode e).isNone then .ready else .done, pending := jumpCode e })⟩, topS st2 st.top, st2.low⟩)
              | _ => none
            | none => none
          else none
        | _ => none
      | _ => none
    else none
  | _ => none

/-- A call of a function's value. -/
def callD (par : Par) (run : Run) (f : D) (args : List D) (st : St) : Option (D × St) :=
  match f with
  | .fn f first caps => callF par run f (first ++ args ++ caps) st
  | .yld s ver => round run s ver args st
  | _ => none

/-- Is a function's text run, and are its sites to be kept? -/
def keepOf : Kind → Option Bool
  | .plain => some false
  | .refs => some false
  | .keeps => some true
  | _ => none

/-- A call of a function's value, by its text over the caller's store. -/
def callG (par : Par) (run : Run) (f : D) (args : List D) (st : St) : Option (D × St) :=
  match f with
  | .fn f first caps => (match keepOf (par.spec f) with
    | some k => callO par run k f (first ++ args ++ caps) st
    | none => none)
  | _ => none

/-- Rows among what is put into an aggregate or a list are frozen ahead of it. -/
def needsFreeze : D → Bool
  | .arr _ _ _ _ _ => true
  | .agg ds => ds.any fun d => match d with | .arr _ _ _ _ _ => true | _ => false
  | _ => false

/-- Freeze the rows in the operands of a list's elements. -/
def freezeParts (G : Nat → List V) (env : E) : List (Nat × Operand) → Sites → Option (List (Nat × D) × Sites)
  | [], st => some ([], st)
  | (i, x) :: r, st =>
    match ev G env x with
    | some d => match (if needsFreeze d then match freeze d st with | some (y, st) => some (D.v y, st) | none => none else some (d, st)) with
      | some (d, st) => match freezeParts G env r st with
        | some (l, st) => some ((i, d) :: l, st)
        | none => none
      | none => none
    | none => none

def bigSlice (par : Par) (t : TypeId) (len : Nat) (parts : List (Nat × Operand)) (env : E) (st : Sites) : Option (D × Sites) :=
  match und par.T t with
  | some (.slice e) =>
    let size := cel par.T e
    if size = 0 ∨ len * size > 2 ^ 24 then none else
    match zeroV par.T e, freezeParts par.G env parts st with
    | some z, some (ps, st) =>
      if oneD (.v z) = false ∨ z.cells.length ≠ size then none else
      match fillB (fun i => some (i * size, size)) ((List.replicate len z.cells).flatten.map .v) (ps.map fun p => (p.1, match p.2.toV with | some x => .v x | none => p.2)) with
      | some cs => match allV cs with
        | some l => some (.full false size (group size len l), st)
        | none => none
      | none => none
    | _, _ => none
  | _ => none

/-- What an operation that enters no function does. -/
def withEff (e : Option Eff) (st : St) : Option (D × St) :=
  match e with
  | some e => fD e.d fun d => (match e.wr with
    | some (s, r) => (match Nat.blt s maxSite with
      | true => fRec r fun r => fSetS st.sites s r fun sites => some (d, ⟨sites, st.top, st.low⟩)
      | false => none)
    | none => some (d, st))
  | none => none

def withCall (par : Par) (run : Run) (f : Option D) (args : Option (List D)) (st : St) : Option (D × St) :=
  match f, args with
  | some f, some args => callD par run f args st
  | _, _ => none

def opList (par : Par) (env : E) (st : St) (t : TypeId) (len : Nat) (parts : List (Nat × Operand)) : Option (D × St) :=
  match bigSlice par t len parts env st.sites with
  | some (d, sites) => fD d fun d => some (d, ⟨sites, st.top, st.low⟩)
  | none => none

/-- What an operation that is neither a call of a function nor a list does. -/
def opEff (par : Par) (fb : Nat) (o : Oper) (env : E) (st : Sites) : Option Eff :=
  match o.op with
  | .move x => opCopy par env x
  | .assign x => opCopy par env x
  | .load t a => opLoad par env st t a
  | .store t a x => opStore par env st t a x
  | .binOp op t x y _ => opBin par env op t x y
  | .pick c a b => opPick par env c a b
  | .alloc e => opAlloc par fb o.dst st e
  | .box e x => opBox par fb o.dst env st e x
  | .build t parts => opBuild par env t parts.toList
  | .nilCheck x => opNil par env x
  | .unOp op _ x => opUn par env op x
  | .convert src dst x => opConv par env st src dst x
  | .makeInterface t x => opIface par env t x
  | .makeFunc fn first caps => opFunc par env fn first.toList caps.toList
  | .makeSlice t l c => opMake par fb o.dst env st t l c
  | .slice t x lo hi mx => opSlice par env st t x lo hi mx
  | .fieldAddr t x f => opFieldAddr par env t x f
  | .field t x f => opField par env t x f
  | .indexAddr t x i => opIndexAddr par env t x i
  | .index t x i => opIndex par env t x i
  | .range t x => opRange par fb o.dst env st t x
  | .next it true => opNext par env st it
  | .extract t i => opExtract par env t i
  | .call c => (match c.callee with
    | .builtin b => opBuiltin par fb o.dst env st b c.args.toList c.argTypes
    | _ => none)
  | _ => none

/-- Is an operation a call of a function's value, a list, or neither? -/
inductive OpK where
  | call (f : Operand) (args : Array Operand)
  | list (t : TypeId) (len : Nat) (parts : Array (Nat × Operand))
  | eff

def opK (o : Oper) : OpK :=
  match o.op with
  | .call c => (match c.callee with
    | .value f => .call f c.args
    | _ => .eff)
  | .buildSlice t len parts => .list t len parts
  | _ => .eff

/-- One operation. -/
def opStep (par : Par) (run : Run) (fb : Nat) (o : Oper) (env : E) (st : St) : Option (D × St) :=
  match opK o with
  | .eff => withEff (opEff par fb o env st.sites) st
  | .call f args => withCall par run (ev par.G env f) (mapEv par.G env args.toList) st
  | .list t len parts => opList par env st t len parts.toList

def wantedB (ops : List Oper) (o : Oper) (env : E) : Option Bool :=
  match o.guard with
  | none => some true
  | some (j, want) =>
    match ops[j]? with
    | some q => match q.dst with
      | some t => match getO env t with
        | some (.v (.bool b)) => some (b == want)
        | some (.v (.tup [])) => some false
        | _ => none
      | none => none
    | none => none

def runOps (par : Par) (run : Run) (fb : Nat) (all : List Oper) : List Oper → E → St → Option (E × St)
  | [], env, st => some (env, st)
  | o :: rest, env, st =>
    match wantedB all o env with
    | some true => match opStep par run fb o env st with
      | some (d, st) => fPut env o.dst d fun env => runOps par run fb all rest env st
      | none => none
    | some false => fPut env o.dst (.v (.tup [])) fun env => runOps par run fb all rest env st
    | none => none

/-! ### Regions whose order is drawn -/
def eqL {α : Type} (f : α → α → Bool) : List α → List α → Bool
  | [], [] => true
  | x :: xs, y :: ys => match f x y with | true => eqL f xs ys | false => false
  | _, _ => false

/-- Are two data the same? (What is too deep is taken as not the same.) -/
def eqV : Nat → V → V → Bool
  | 0, _, _ => false
  | n + 1, x, y => match x, y with
    | .undef, .undef => true
    | .bool a, .bool b => a == b
    | .int k a, .int k' b => decide (k = k') && decide (a = b)
    | .str a, .str b => decide (a = b)
    | .nilp, .nilp => true
    | .nilfn, .nilfn => true
    | .nilif, .nilif => true
    | .ifany, .ifany => true
    | .iface t x, .iface t' y => Nat.beq t t' && eqV n x y
    | .slice nl sz xs, .slice nl' sz' ys => nl == nl' && Nat.beq sz sz' && eqL (eqV n) xs ys
    | .agg xs, .agg ys => eqL (eqV n) xs ys
    | .tup xs, .tup ys => eqL (eqV n) xs ys
    | _, _ => false

def eqDN : Nat → D → D → Bool
  | 0, _, _ => false
  | n + 1, x, y => match x, y with
    | .v x, .v y => eqV 40 x y
    | .ptr s v o, .ptr s' v' o' => Nat.beq s s' && Nat.beq v v' && Nat.beq o o'
    | .anyp, .anyp => true
    | .pin k cs, .pin k' cs' => k == k' && eqL (eqV 40) cs cs'
    | .arr s v z o l, .arr s' v' z' o' l' => Nat.beq s s' && Nat.beq v v' && Nat.beq z z' && Nat.beq o o' && Nat.beq l l'
    | .full nl sz xs, .full nl' sz' ys => nl == nl' && Nat.beq sz sz' && eqL (eqV 40) xs ys
    | .fn f a b, .fn f' a' b' => Nat.beq f f' && eqL (eqDN n) a a' && eqL (eqDN n) b b'
    | .yld s v, .yld s' v' => Nat.beq s s' && Nat.beq v v'
    | .itr s v, .itr s' v' => Nat.beq s s' && Nat.beq v v'
    | .agg xs, .agg ys => eqL (eqDN n) xs ys
    | .tup xs, .tup ys => eqL (eqDN n) xs ys
    | _, _ => false

/-- What an operation did: nothing that hangs on the store; an effect that looks at some sites; whatever. -/
inductive Did where
  | pure
  | eff (e : Eff) (o : Oper) (env : E)
  | bar (a b : Sites)

def isData : D → Bool
  | .v _ => true
  | .full _ _ _ => true
  | .pin _ _ => true
  | .fn _ a b => noRefs a && noRefs b
  | _ => false

def shutK : Kind → Bool
  | .plain => true
  | .nat _ => true
  | _ => false

/-- A call that does not hang on the store. -/
def pureCall (par : Par) (f : D) (args : List D) : Bool :=
  match f with
  | .fn f first caps => shutK (par.spec f) && (first ++ args ++ caps).all isData
  | _ => false

def pureParts (G : Nat → List V) (env : E) (l : List (Nat × Operand)) : Bool :=
  l.all fun p => match ev G env p.2 with | some d => !needsFreeze d | none => false

def didEff (e : Eff) (o : Oper) (env : E) : Did :=
  match e.rd, e.wr with
  | [], none => .pure
  | _, _ => .eff e o env

/-- One operation, with what it did. -/
def doOp (par : Par) (run : Run) (fb : Nat) (o : Oper) (env : E) (st : St) : Option (Did × D × St) :=
  match opK o with
  | .eff => (match opEff par fb o env st.sites with
    | some e => (match withEff (some e) st with
      | some (d, st') => some (didEff e o env, d, st')
      | none => none)
    | none => none)
  | .call f args => (match ev par.G env f, mapEv par.G env args.toList with
    | some fd, some ds => (match callD par run fd ds st with
      | some (d, st') => some (if pureCall par fd ds then .pure else .bar st.sites st'.sites, d, st')
      | none => none)
    | _, _ => none)
  | .list t len parts => (match opList par env st t len parts.toList with
    | some (d, st') => some (if pureParts par.G env parts.toList then .pure else .bar st.sites st'.sites, d, st')
    | none => none)

def traceOps (par : Par) (run : Run) (fb : Nat) (all : List Oper) : List Oper → E → St → Option (List Did × E × St)
  | [], env, st => some ([], env, st)
  | o :: rest, env, st =>
    match wantedB all o env with
    | some true => (match doOp par run fb o env st with
      | some (did, d, st1) => fPut env o.dst d fun env1 => match traceOps par run fb all rest env1 st1 with
        | some (l, env', st') => some (did :: l, env', st')
        | none => none
      | none => none)
    | some false => fPut env o.dst (.v (.tup [])) fun env1 => match traceOps par run fb all rest env1 st with
      | some (l, env', st') => some (.pure :: l, env', st')
      | none => none
    | none => none

/-- Does an effect that turns nothing do the same over another store? -/
def same1 (par : Par) (fb : Nat) (e : Eff) (o : Oper) (env : E) (st : Sites) : Bool :=
  match opEff par fb o env st with
  | some e' => eqDN 40 e'.d e.d && e'.wr.isNone && eqL Nat.beq e'.rd e.rd
  | none => false

def hits (w : Option (Nat × Rec)) (e : Eff) : Bool :=
  match w with
  | some (s, _) => e.rd.any (Nat.beq s) || (match e.wr with | some (s', _) => Nat.beq s s' | none => false)
  | none => false

def effBar (par : Par) (fb : Nat) (e : Eff) (o : Oper) (env : E) (a b : Sites) : Bool :=
  e.wr.isNone && same1 par fb e o env a && same1 par fb e o env b

/-- May two operations change places? -/
def apart (par : Par) (fb : Nat) : Did → Did → Bool
  | .pure, _ => true
  | _, .pure => true
  | .eff e _ _, .eff e' _ _ => !(hits e.wr e') && !(hits e'.wr e)
  | .eff e o env, .bar a b => effBar par fb e o env a b
  | .bar a b, .eff e o env => effBar par fb e o env a b
  | .bar _ _, .bar _ _ => false

/-- The pairs of operations that may not change places. -/
def badGo (par : Par) (fb : Nat) : List (Nat × Did) → Nat → List Did → List (Nat × Nat)
  | _, _, [] => []
  | prev, i, .pure :: ds => badGo par fb prev (i + 1) ds
  | prev, i, d :: ds => (prev.filterMap fun p => if apart par fb p.2 d then none else some (p.1, i)) ++ badGo par fb ((i, d) :: prev) (i + 1) ds

/-- The operations that stand ahead of an operation in whatever order, as bits. -/
def maskOf (acc : List Nat) (o : Oper) : Nat := o.after.toList.foldl (fun s e => if Region.binds .any e then s ||| 2 ^ e.on ||| acc.getD e.on 0 else s) 0
def befM (ops : List Oper) : List Nat := ops.foldl (fun acc o => acc ++ [maskOf acc o]) []

def inOrder (ops : List Oper) (l : List (Nat × Nat)) : Bool :=
  match l with
  | [] => true
  | l => l.all fun p => Nat.testBit ((befM ops).getD p.2 0) p.1

def drawOk (ops : List Oper) (l : List (Nat × Nat)) (r : E × St) : Option (E × St) :=
  match inOrder ops l with
  | true => some r
  | false => none

def runDraw (par : Par) (run : Run) (fb : Nat) (ops : List Oper) (env : E) (st : St) : Option (E × St) :=
  match traceOps par run fb ops ops env st with
  | some (l, env', st') => drawOk ops (badGo par fb [] 0 l) (env', st')
  | none => none

def runReg (par : Par) (run : Run) (fb : Nat) (draw : Bool) (ops : List Oper) (env : E) (st : St) : Option (E × St) :=
  match draw with
  | false => runOps par run fb ops ops env st
  | true => runDraw par run fb ops env st

/-! What of this hangs on the text alone. -/
def tmpsOf (ops : List Oper) (o : Oper) : List Tmp :=
  o.op.operands.toList.filterMap (fun | .tmp t => some t | _ => none) ++ (match o.guard with | some (j, _) => ((ops[j]?).bind (·.dst)).toList | none => [])

def namesApart (ops : List Oper) (a b : Oper) : Bool :=
  (match a.dst with | some t => !((tmpsOf ops b).any (Nat.beq t)) && (match b.dst with | some t' => !(Nat.beq t t') | none => true) | none => true) &&
  (match b.dst with | some t => !((tmpsOf ops a).any (Nat.beq t)) | none => true)

def namesOk (ops : List Oper) (ms : List Nat) : Bool :=
  ops.zipIdx.all fun (b, j) => ops.zipIdx.all fun (a, i) => !(Nat.blt i j) || Nat.testBit (ms.getD j 0) i || namesApart ops a b

def drawStat (ops : Array Oper) : Bool :=
  namesOk ops.toList (befM ops.toList) && (Region.linearise .any ops 0).length == ops.size && (Region.linearise .text ops 0).length == ops.size && (Region.linearise .gc ops 0).length == ops.size

/-- A range over a function: the loop's record is laid, the function called with its yield; then the jump that is pending, if there is one. -/
def stepRange (par : Par) (run : Run) (f : Operand) (params : List Tmp) (assign body : Code) (fb : Nat) (env : E) (st : St) : Option (Ex × E × St) :=
  if maxSite ≤ fb + params.headD 0 then none else
  match ev par.G env f with
  | some g =>
    match callG par run g [.yld (fb + params.headD 0) ((verS st.sites (fb + params.headD 0)) + 1)]
      ⟨setS st.sites (fb + params.headD 0) ⟨(verS st.sites (fb + params.headD 0)) + 1, some (.loop { state := .ready, pending := none, env, params, assign, body, fb })⟩, st.top, st.low⟩ with
    | some (_, st1) =>
      match look st1.sites (fb + params.headD 0) ((verS st.sites (fb + params.headD 0)) + 1) with
      | some (.loop l1) =>
        if l1.state = .busy then none else
        match jumpEx l1.pending with
        | some e => some (e, env, ⟨setS st1.sites (fb + params.headD 0) ⟨(verS st.sites (fb + params.headD 0)) + 1, none⟩, topS st1 st.top, st1.low⟩)
        | none => none
      | _ => none
    | none => none
  | none => none

def stepSeq (run : Run) (b : Code) (fb : Nat) (r : Option (Ex × E × St)) : Option (Ex × E × St) :=
  match r with
  | some (.normal, env, st) => run b fb env st
  | r => r

def stepRegion (r : Option (E × St)) : Option (Ex × E × St) :=
  match r with
  | some (env, st) => some (.normal, env, st)
  | none => none

def stepCond (run : Run) (c : Option D) (a b : Code) (fb : Nat) (env : E) (st : St) : Option (Ex × E × St) :=
  match c with
  | some (.v (.bool true)) => run a fb env st
  | some (.v (.bool false)) => run b fb env st
  | _ => none

def stepBlock (id : Nat) (r : Option (Ex × E × St)) : Option (Ex × E × St) :=
  match r with
  | some (.exit i, env, st) => if i = id then some (.normal, env, st) else some (.exit i, env, st)
  | r => r

def stepLoop (run : Run) (body : Code) (fb top : Nat) (r : Option (Ex × E × St)) : Option (Ex × E × St) :=
  match r with
  | some (.normal, env, st') => fNat (topS st' top) fun t => run (.loop body) fb env ⟨st'.sites, t, st'.low⟩
  | r => r

/-- No jump to a label is taken in. -/
def stepScope (r : Option (Ex × E × St)) : Option (Ex × E × St) :=
  match r with
  | some (.goto _, _, _) => none
  | r => r

/-- One unfolding: code, where 'run' runs what stands within. -/
def step (par : Par) (run : Run) : Run := fun c fb env st =>
  match c with
  | .skip => some (.normal, env, st)
  | .region _ ops draw => stepRegion (runReg par run fb draw ops.toList env st)
  | .seq a b => stepSeq run b fb (run a fb env st)
  | .cond c a b => stepCond run (ev par.G env c) a b fb env st
  | .block id body => stepBlock id (run body fb env st)
  | .loop body => stepLoop run body fb st.top (run body fb env st)
  | .exit id => some (.exit id, env, st)
  | .ret => some (.ret, env, st)
  | .scope body => stepScope (run body fb env st)
  | .label _ => some (.normal, env, st)
  | .goto l => some (.goto l, env, st)
  | .rangeFunc f params assign body => stepRange par run f params.toList assign body fb env st
  | .refuse _ => none

/-- The interpreter: so many unfoldings. -/
noncomputable def exec (par : Par) (n : Nat) : Run := Nat.rec (fun _ _ _ _ => none) (fun _ run => step par run) n

/-- A function, called with data. -/
noncomputable def evalF (par : Par) (n : Nat) (f : FuncId) (args : List V) : Option V := callC par (exec par n) f (args.map .v)

end Go.BI
/- THE INTERPRETER 'B', third part: what stands in the place of functions without a text. Definitions alone. -/
set_option linter.unusedVariables false
namespace Go.BI
open Go

/-- The place of a byte; -1: there is none. -/
def idxB : List UInt8 → UInt8 → Nat → Int
  | [], _, _ => -1
  | b :: r, c, i => if b = c then i else idxB r c (i + 1)

def cmpB : List UInt8 → List UInt8 → Int
  | [], [] => 0
  | [], _ :: _ => -1
  | _ :: _, [] => 1
  | a :: x, b :: y => if a = b then cmpB x y else if a < b then -1 else 1

def natIndexByte : List V → Option V
  | [.str s, .int .u8 c] => some (.int .i64 (idxB s (UInt8.ofNat c.toNat) 0))
  | _ => none

def natCompare : List V → Option V
  | [.slice _ _ a, .slice _ _ b] => match toBytes a, toBytes b with
    | some x, some y => some (.int .i64 (cmpB x y))
    | _, _ => none
  | _ => none

/-- A table, looked up by halves. -/
inductive Tab (α : Type) where
  | leaf
  | node (k : Nat) (v : α) (l r : Tab α)

def Tab.get {α : Type} (d : α) : Tab α → Nat → α
  | .leaf, _ => d
  | .node k v l r, n => if n = k then v else if n < k then l.get d n else r.get d n

end Go.BI
