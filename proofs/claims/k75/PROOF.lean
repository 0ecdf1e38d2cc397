import PyProof.Rows.All
import Wide.All
import OpenK.AllK
import Wide.FinOn
import KE.SortData
import KE.DataMinMax
import KE.DataAny
import KE.DataCmp
import KE.DataFind
import KE.DataIsa
import HandS.ForMost
import HandS.ForExc
import HandS.TupAny
import HandS.Conv
import HandS.Style
import HandS.Flow
import HandS.IsInst
import HandS.WideBits
import HandS.TupMul
import HandS.ExcInit
import HandS.ExcField
import KE.KExcIs
import HandS.ExcOwn
import HandS.Iter
import HandS.Comp
import KE.GoesMore
import KE.GoesZip
import KE.GoesEnum
import HandS.Zip
import HandS.Words
import HandS.WordsExc
import HandS.TryOnly
import HandS.TryMany
import KE.KExcSuper
import HandS.FStr
import PyProof.FString2
import HandS.HeadHook1
import HandS.Head2
import HandS.HeadEnd
import HandS.HeadHook2
import PySem.Challenge.RW_rowtruce_k75_questions_checked
section
set_option autoImplicit false
set_option linter.all false
/-! Mini: a small language of our own, whose programs are pure data, and what its programs compute.
Lists that a def changes in place stand in a slot of their own (ol, ol2); all else is a value. -/
namespace MP
open PySem

abbrev D := PyData

/-- what stands in a slot of a frame -/
inductive Slot where
  /-- nothing -/
  | u
  /-- a value -/
  | v (d : D)
  /-- a value that is lent: it may be looked at, not kept -/
  | b (d : D)
  /-- an own list of values -/
  | ol (xs : List D)
  /-- an own list of own lists -/
  | ol2 (xss : List (List D))
  deriving Inhabited

abbrev Env := List Slot

structure Exn where
  cls : String
  args : List D

/-- an expression's answer -/
inductive R where
  | st (d : D)
  | fr (xs : List D)
  /-- an own list, looked at -/
  | own (xs : List D)
  | own2 (xss : List (List D))
  | bor (d : D)

inductive Out (α : Type) where
  | ok (a : α) (e : Env)
  | exc (x : Exn) (e : Env)
  | bad

def Out.bind {α β : Type} : Out α → (α → Env → Out β) → Out β
  | .ok a e, f => f a e
  | .exc x e, _ => .exc x e
  | .bad, _ => .bad

inductive COut where
  | ret (r : R) (outs : List Slot)
  | exc (x : Exn) (outs : List Slot)
  | bad

/-- how an own exception's __init__ lays its fields -/
inductive XKind where
  /-- no __init__ of its own, not raised -/
  | base
  /-- one text, shown -/
  | one
  /-- None, a number or a text, and a text: both shown -/
  | two
  /-- a text and a number -/
  | many
  /-- a value that is not shown -/
  | quiet
  deriving DecidableEq
structure XCls where
  kind : XKind
  /-- its fields, in the order of the parameters -/
  flds : List String
  /-- the own classes that it stands under, itself among them -/
  ups : List String
/-- what a text's defs are called with: its defs, its constants, its exception classes -/
structure CallF where
  fn : String → Option (List Slot → COut)
  con : String → Option D
  cls : String → Option XCls

inductive BOp where
  | add | sub | mul | fdiv | mod | pow | shl | shr | band | bor
  deriving DecidableEq
inductive COp where
  | eq | ne | lt | le | gt | ge | isN | notN | isIn | notIn
  deriving DecidableEq
/-- built-ins of one looked-at argument -/
inductive B1 where
  | len | tuple | list | sorted | sum | any | all | max | min | int | abs | isInt | isBool | isTuple | isStr | bitlen
  deriving DecidableEq
inductive B2 where
  | min | max
  deriving DecidableEq

/-- targets -/
inductive Tg where
  | var (i : Nat)
  | tup (ts : List Nat)
  deriving DecidableEq

mutual
inductive Ex where
  | lit (d : D)
  /-- a constant of the module -/
  | glo (x : String)
  | var (i : Nat)
  | pk (i : Nat)
  | tup (es : Exs)
  | lst (es : Exs)
  | bin (o : BOp) (a b : Ex)
  | neg (a : Ex)
  | inv (a : Ex)
  | not (a : Ex)
  | and (a b : Ex)
  | or (a b : Ex)
  | cmp (o : COp) (a b : Ex)
  | chain (o p : COp) (a b c : Ex)
  | ife (c a b : Ex)
  | idx (a i : Ex)
  | slc (a lo hi : Ex)
  | rev (a : Ex)
  | b1 (f : B1) (a : Ex)
  | b2 (f : B2) (a b : Ex)
  | count (a e : Ex)
  | call (f : String) (es : Exs)
  | io (i : Nat)
  | app (i : Nat) (e : Ex)
  | appNew (i : Nat)
  | appAt (i : Nat) (k e : Ex)
  | ext (i : Nat) (e : Ex)
  | pop (i : Nat)
  | popAt (i : Nat) (k : Ex)
  | comp (t : Tg) (it : It) (cond elt : Ex)
  | sortk (t : Tg) (it : It) (key : Ex)
  /-- list(range ..), tuple(range ..) -/
  | itL (it : It)
  | itT (it : It)
inductive Exs where
  | nil
  | cons (e : Ex) (es : Exs)
/-- what is walked -/
inductive It where
  | ex (e : Ex)
  | range (a : Ex)
  | range2 (a b : Ex)
  | range3 (a b c : Ex)
  | enum (a : Ex)
  | zip (a b : Ex)
end
def It.pkIx : It → Nat
  | .ex (.pk i) => i
  | _ => 0

/-- an expression of an except suite; fld, isC: of the caught exception -/
inductive HEx where
  | lit (d : D)
  | var (i : Nat)
  | fld (f : String)
  | isC (c : String)
  | not (a : HEx)
  | and (a b : HEx)
  | or (a b : HEx)
  | cmp (o : COp) (a b : HEx)
  | ife (c a b : HEx)
  | nil
  | tup1 (a : HEx)
  | tup2 (a b : HEx)
mutual
/-- a statement of an except suite -/
inductive HSt where
  | ret (h : HEx)
  | ite (c : HEx) (a b : HSs)
inductive HSs where
  | nil
  | cons (s : HSt) (ss : HSs)
end
inductive Hds where
  /-- except c: h -/
  | one (c : String) (h : HSs)
  /-- except c as (slot i): h -/
  | named (c : String) (i : Nat) (h : HSs)
  /-- except c: h; except c2: h2 -/
  | two (c : String) (h : HSs) (c2 : String) (h2 : HSs)
mutual
inductive St where
  | expr (e : Ex)
  | raise (c : String) (es : Exs)
  | try (b : Sts) (h : Hds)
  /-- the name is to hold a value -/
  | asg (i : Nat) (e : Ex)
  /-- the name is to hold an own list -/
  | asgO (i : Nat) (e : Ex)
  | asgT (ts : List Nat) (e : Ex)
  | asgI (i : Nat) (k e : Ex)
  | aug (i : Nat) (o : BOp) (e : Ex)
  | augI (i : Nat) (k : Ex) (o : BOp) (e : Ex)
  | ite (c : Ex) (a b : Sts)
  | while (c : Ex) (b : Sts)
  | for (t : Tg) (it : It) (b : Sts)
  | ret (e : Ex)
  | retN
  | pass
inductive Sts where
  | nil
  | cons (s : St) (ss : Sts)
end

structure MFun where
  params : Nat
  slots : Nat
  io : List Nat
  body : Sts

/-! ### values -/
mutual
/-- nothing in it can change -/
def immut : D → Bool
  | .none => true
  | .bool _ => true
  | .int _ => true
  | .str _ => true
  | .tuple xs => immutAll xs
  | .list _ => false
  | .dict _ => false
def immutAll : List D → Bool
  | [] => true
  | x :: xs => immut x && immutAll xs
end

def line : Nat := 16777216
def truthy : D → Option Bool
  | .none => some false
  | .bool b => some b
  | .int i => some (i != 0)
  | .str x => if x.length ≤ line then some (x.length != 0) else none
  | .tuple xs => some (!xs.isEmpty)
  | .list xs => some (!xs.isEmpty)
  | .dict _ => none

/-- the places of an index -/
def ixN (n : Nat) (i : Int) : Option Nat := if 0 ≤ i then (if i < n then some i.toNat else none) else if -(n : Int) ≤ i then some (i + n).toNat else none
def atI {α : Type} (xs : List α) (i : Int) : Option α := (ixN xs.length i).bind fun j => xs[j]?
def sIx (n d : Nat) : Option Int → Nat
  | none => d
  | some v => if v < 0 then (v + n).toNat else min v.toNat n
def cut {α : Type} (xs : List α) (lo hi : Option Int) : List α := (xs.drop (sIx xs.length 0 lo)).take (sIx xs.length xs.length hi - sIx xs.length 0 lo)
def part : D → Option (Option Int)
  | .none => some none
  | .int i => some (some i)
  | _ => none

/-- the items of a list or tuple -/
def items : D → Option (List D)
  | .list xs => some xs
  | .tuple xs => some xs
  | _ => none

/-- i ≤ n, -n ≤ i: tests that the kernel ends soon at unknown numbers (no big number is taken away) -/
def leB (n : Nat) : Int → Bool
  | .ofNat k => Nat.ble k n
  | .negSucc _ => true
def geB (n : Nat) : Int → Bool
  | .ofNat _ => true
  | .negSucc k => Nat.ble (k + 1) n
theorem leB_iff (n : Nat) (i : Int) : leB n i = true ↔ i ≤ n := by
  cases i with
  | ofNat k =>
    show Nat.ble k n = true ↔ (k : Int) ≤ n
    rw [Nat.ble_eq]; omega
  | negSucc k =>
    constructor
    · intro _; omega
    · intro _; rfl
theorem geB_iff (n : Nat) (i : Int) : geB n i = true ↔ -(n : Int) ≤ i := by
  cases i with
  | ofNat k =>
    constructor
    · intro _
      show -(n : Int) ≤ (k : Int)
      omega
    · intro _; rfl
  | negSucc k =>
    show Nat.ble (k + 1) n = true ↔ _
    rw [Nat.ble_eq]; omega
def mulOk (i j : Int) : Bool := (geB 18446744073709551615 i && leB 18446744073709551615 i) || (geB 18446744073709551615 j && leB 18446744073709551615 j)
def shOk (i j : Int) : Bool := geB 0 j && leB 1000000 j && Nat.ble (i.natAbs + 1) 18446744073709551616

def binAdd : D → D → Option R
  | .int i, .int j => some (.st (.int (i + j)))
  | .tuple xs, .tuple ys => if xs.length + ys.length ≤ line then some (.st (.tuple (xs ++ ys))) else none
  | .list xs, .list ys => if xs.length + ys.length ≤ line then some (.fr (xs ++ ys)) else none
  | _, _ => none
def binMul : D → D → Option R
  | .int i, .int j => if mulOk i j = true then some (.st (.int (i * j))) else none
  | .list xs, .int j => if 0 ≤ j ∧ j < 2 ^ 62 ∧ xs.length * j.toNat ≤ line then some (.fr (List.replicate j.toNat xs).flatten) else none
  | .tuple xs, .int j => if xs ≠ [] ∧ 1 ≤ j ∧ j ≤ 1000 ∧ xs.length ≤ 1000 then some (.st (.tuple (List.replicate j.toNat xs).flatten)) else none
  | _, _ => none
def binI (c : Int → Int → Bool) (f : Int → Int → Int) : D → D → Option R
  | .int i, .int j => if c i j = true then some (.st (.int (f i j))) else none
  | _, _ => none
def divOk (_ j : Int) : Bool := decide (0 < j) && leB 1073741823 j
def bin : BOp → D → D → Option R
  | .add, x, y => binAdd x y
  | .sub, x, y => binI (fun _ _ => true) (fun i j => i - j) x y
  | .mul, x, y => binMul x y
  | .fdiv, x, y => binI divOk (fun i j => i / j) x y
  | .mod, x, y => binI (fun _ j => decide (0 < j)) (fun i j => i % j) x y
  | .pow, x, y => binI shOk (fun i j => i ^ j.toNat) x y
  | .shl, x, y => binI shOk (fun i j => i * 2 ^ j.toNat) x y
  | .shr, x, y => binI (fun _ j => decide (0 ≤ j)) (fun i j => i / 2 ^ j.toNat) x y
  | .band, x, y => binI (fun _ _ => true) Builtin.bitAnd x y
  | .bor, x, y => binI (fun _ _ => true) Builtin.bitOr x y

/-- not too deep to be compared -/
def shallow (a b : D) : Bool := decide (a.depth ≤ 64) || decide (b.depth ≤ 64)
def isNone : D → Bool
  | .none => true
  | _ => false
def ordered (a b : D) : Bool := W.alike a b && !isNone a && shallow a b
def inSeq (d : D) (xs : List D) : Option Bool := if shallow (.list xs) d then some (xs.any fun z => PyData.eqv z d) else none
def cmp : COp → D → D → Option Bool
  | .eq, a, b => if shallow a b then some (PyData.eqv a b) else none
  | .ne, a, b => if shallow a b then some (!PyData.eqv a b) else none
  | .lt, .int i, .int j => some (decide (i < j))
  | .le, .int i, .int j => some (decide (i ≤ j))
  | .gt, .int i, .int j => some (decide (j < i))
  | .ge, .int i, .int j => some (decide (j ≤ i))
  | .lt, a, b => if ordered a b then some (W.dataLt a b) else none
  | .le, a, b => if ordered a b then some (!W.dataLt b a) else none
  | .gt, a, b => if ordered a b then some (W.dataLt b a) else none
  | .ge, a, b => if ordered a b then some (!W.dataLt a b) else none
  | .isN, a, .none => some (isNone a)
  | .notN, a, .none => some (!isNone a)
  | .isIn, a, .list xs => inSeq a xs
  | .isIn, a, .tuple xs => inSeq a xs
  | .notIn, a, .list xs => (inSeq a xs).map (!·)
  | .notIn, a, .tuple xs => (inSeq a xs).map (!·)
  | _, _, _ => none

def ints? : List D → Option (List Int)
  | [] => some []
  | .int i :: r => (ints? r).map (i :: ·)
  | _ :: _ => none
/-- its length fits -/
def fitB : D → Bool
  | .str x => decide (x.length ≤ line)
  | .list xs => decide (xs.length ≤ line)
  | .tuple xs => decide (xs.length ≤ line)
  | _ => true

/-- can these keys be sorted (small data, all alike) -/
def sortable (ks : List D) : Bool :=
  (ks.all fun x => ks.all fun y => W.alike x y) && ((ks.all fun x => match x with | .tuple (_ :: _) => true | _ => false) || ks.all fun x => match x with | .none => false | .tuple _ => false | _ => true) && (ks.all fun x => decide (x.depth ≤ 32)) && decide (ks.length ≤ line)
def sortBy {α : Type} (key : α → D) (xs : List α) : List α := xs.mergeSort (W.dataLe false key)

/-- a built-in at a value's content -/
def b1 : B1 → D → Option R
  | .len, .list xs => some (.st (.int xs.length))
  | .len, .tuple xs => some (.st (.int xs.length))
  | .tuple, .list xs => some (.st (.tuple xs))
  | .tuple, .tuple xs => some (.st (.tuple xs))
  | .list, .list xs => some (.fr xs)
  | .list, .tuple xs => some (.fr xs)
  | .sorted, .list xs => if sortable xs then some (.fr (sortBy id xs)) else none
  | .sum, .list xs => (ints? xs).map fun ns => .st (.int ns.sum)
  | .any, .list xs => if xs.all fitB then some (.st (.bool (xs.any PyData.truthy))) else none
  | .all, .list xs => if xs.all fitB then some (.st (.bool (xs.all PyData.truthy))) else none
  | .int, .int i => some (.st (.int i))
  | .int, .bool b => some (.st (.int (if b then 1 else 0)))
  | .abs, .int i => some (.st (.int (if i < 0 then -i else i)))
  | .isInt, d => some (.st (.bool d.isInt))
  | .isBool, d => some (.st (.bool d.isBool))
  | .isTuple, d => some (.st (.bool d.isTuple))
  | .isStr, d => some (.st (.bool d.isStr))
  | .bitlen, .int i => some (.st (.int (Builtin.Int.intBits i : Nat)))
  | _, _ => none
def b2 : B2 → D → D → Option D
  | .min, .int i, .int j => some (.int (if j < i then j else i))
  | .max, .int i, .int j => some (.int (if j > i then j else i))
  | _, _, _ => none

/-- what a looked-at answer holds -/
def R.d : R → D
  | .st d => d
  | .fr xs => .list xs
  | .own xs => .list xs
  | .own2 xss => .list (xss.map .list)
  | .bor d => d
/-- the answer kept as a value -/
def R.val : R → Option D
  | .st d => some d
  | .fr xs => some (.list xs)
  | .own _ => none
  | .own2 _ => none
  | .bor d => if immut d then some d else none
/-- may items of it be kept? -/
def R.itemOk : R → D → Bool
  | .st _, _ => true
  | .fr _, _ => true
  | .own _, _ => true
  | .own2 _, _ => false
  | .bor _, d => immut d
/-- an item of it -/
def R.item (r : R) (d : D) : R := match r with
  | .st _ => .st d
  | .fr _ => .st d
  | .own _ => .st d
  | .own2 _ => match d with | .list xs => .own xs | _ => .bor d
  | .bor _ => .bor d
/-- may it be walked while other things go on? -/
def R.walks : R → Bool
  | .own _ => false
  | .own2 _ => false
  | _ => true
/-- as a name's value -/
def R.keep : R → Option Slot
  | .st d => some (.v d)
  | .fr xs => some (.v (.list xs))
  | .own _ => none
  | .own2 _ => none
  | .bor d => if immut d then some (.v d) else some (.b d)
def R.slot : R → Option Slot
  | .st d => some (.v d)
  | .fr xs => some (.ol xs)
  | .own _ => none
  | .own2 _ => none
  | .bor d => if immut d then some (.v d) else some (.b d)

def Slot.look : Slot → Option R
  | .u => none
  | .v d => some (.st d)
  | .b d => some (.bor d)
  | .ol xs => some (.own xs)
  | .ol2 xss => some (.own2 xss)
/-- kept as a value from now on -/
def Slot.freeze : Slot → Option (D × Slot)
  | .u => none
  | .v d => some (d, .v d)
  | .b d => if immut d then some (d, .b d) else none
  | .ol xs => some (.list xs, .v (.list xs))
  | .ol2 xss => some (.list (xss.map .list), .v (.list (xss.map .list)))
/-- lent to a def -/
def Slot.lend : Slot → Option Slot
  | .u => none
  | .v d => some (.v d)
  | .b d => some (.b d)
  | .ol xs => some (.b (.list xs))
  | .ol2 xss => some (.b (.list (xss.map .list)))

def slot (e : Env) (i : Nat) : Slot := (e[i]?).getD .u
/-- no own list -/
def Slot.notOwn : Slot → Bool
  | .ol _ => false
  | .ol2 _ => false
  | _ => true
/-- what was looked at, looked at again behind other steps -/
def later (a : Ex) (r : R) (e : Env) : Option R := match a with
  | .pk j => (slot e j).look
  | _ => match r with
    | .own _ => none
    | .own2 _ => none
    | r => some r

/-- an argument -/
inductive Arg where
  | val (d : D)
  | lent (i : Nat)
  | io (i : Nat)
def Arg.slot (e : Env) : Arg → Option Slot
  | .val d => some (.v d)
  | .lent i => (MP.slot e i).lend
  | .io i => match MP.slot e i with | .ol xs => some (.ol xs) | .ol2 xss => some (.ol2 xss) | _ => none
def argSlots (e : Env) : List Arg → Option (List Slot)
  | [] => some []
  | a :: r => (a.slot e).bind fun s => (argSlots e r).map (s :: ·)
/-- a slot handed back: no lent value -/
def Slot.own : Slot → Slot
  | .b _ => .u
  | s => s
/-- an answer that leans on nothing lent -/
def R.free : R → Bool
  | .st _ => true
  | .fr _ => true
  | _ => false
/-- the slots that were lent for change, behind the call -/
def backs : List Arg → List Slot → Env → Env
  | .io i :: r, s :: ss, e => backs r ss (e.set i s.own)
  | _ :: r, _ :: ss, e => backs r ss e
  | _, _, e => e
def ioIxs : List Arg → List Nat
  | [] => []
  | .io i :: r => i :: ioIxs r
  | _ :: r => ioIxs r
def lentIxs : List Arg → List Nat
  | [] => []
  | .lent i :: r => i :: lentIxs r
  | _ :: r => lentIxs r
/-- no slot is lent for change twice, or while it is lent for looks -/
def argsOk (as : List Arg) : Bool := decide (ioIxs as).Nodup && (ioIxs as).all fun i => !(lentIxs as).contains i

def setAll (e : Env) : List Nat → List D → Option Env
  | [], [] => some e
  | i :: is, d :: ds => setAll (e.set i (.v d)) is ds
  | _, _ => none
def Tg.bind (t : Tg) (d : D) (e : Env) : Option Env := match t, d with
  | .var i, d => some (e.set i (.v d))
  | .tup is, .tuple ds => setAll e is ds
  | _, _ => none
def Tg.vars : Tg → List Nat
  | .var i => [i]
  | .tup is => is
def wipe (e : Env) : List Nat → Env
  | [] => e
  | i :: is => (wipe e is).set i .u
/-- the slots is as they were in e0 -/
def restore (e0 e : Env) : List Nat → Env
  | [] => e
  | i :: is => (restore e0 e is).set i (slot e0 i)

def lift {α : Type} (e : Env) : Option α → Out α
  | some a => .ok a e
  | none => .bad

/-- an answer kept as a value -/
def valOf (o : Out R) : Out D := o.bind fun r e => lift e r.val
/-- an answer as a test -/
def truthOf (o : Out R) : Out Bool := o.bind fun r e => lift e (truthy r.d)
def int? : D → Option Int
  | .int i => some i
  | _ => none
/-- an answer that is a whole number -/
def intOf (o : Out R) : Out Int := (valOf o).bind fun d e => lift e (int? d)

def pairs (n : Nat) : List D → List D
  | [] => []
  | x :: xs => .tuple [.int n, x] :: pairs (n + 1) xs
def zips : List D → List D → List D
  | x :: xs, y :: ys => .tuple [x, y] :: zips xs ys
  | _, _ => []
def rangeL (lo : Int) (n : Nat) (step : Int) : List D := (List.range n).map fun (k : Nat) => .int (lo + k * step)
def rangeN (lo hi : Int) : Nat := (hi - lo).toNat
def smallI (i : Int) : Bool := geB 2305843009213693952 i && leB 2305843009213693951 i
theorem smallI_iff (i : Int) : smallI i = true ↔ -(2 ^ 61) ≤ i ∧ i < 2 ^ 61 := by
  unfold smallI
  rw [Bool.and_eq_true, geB_iff, leB_iff]
  omega
theorem divOk_iff (i j : Int) : divOk i j = true ↔ 0 < j ∧ j < 1073741824 := by
  unfold divOk
  rw [Bool.and_eq_true, leB_iff, decide_eq_true_eq]
  omega
theorem mulOk_iff (i j : Int) : mulOk i j = true ↔ (-(2 ^ 64) < i ∧ i < 2 ^ 64) ∨ (-(2 ^ 64) < j ∧ j < 2 ^ 64) := by
  unfold mulOk
  simp only [Bool.or_eq_true, Bool.and_eq_true, geB_iff, leB_iff]
  omega
theorem shOk_iff (i j : Int) : shOk i j = true ↔ (0 ≤ j ∧ j ≤ 1000000) ∧ i.natAbs < 2 ^ 64 := by
  unfold shOk
  simp only [Bool.and_eq_true, geB_iff, leB_iff, Nat.ble_eq]
  omega

/-- a list comprehension's loop: turn x env gives an item, or none -/
def compLoop (turn : D → Env → Out (Option D)) : List D → List D → Env → Out (List D)
  | [], acc, e => .ok acc e
  | x :: xs, acc, e => match turn x e with
    | .ok (some y) e1 => if acc.length < line then compLoop turn xs (acc ++ [y]) e1 else .bad
    | .ok none e1 => compLoop turn xs acc e1
    | .exc _ _ => .bad
    | .bad => .bad
/-- an item by its place -/
def itemAt (r : R) (k : Int) : Option R := (items r.d).bind fun xs => (atI xs k).map r.item
def sliceOf (r : R) (l h : Option Int) : Option R := match r.d with
  | .list xs => if (cut xs l h).all r.itemOk then some (.fr (cut xs l h)) else none
  | .tuple xs => if (cut xs l h).all r.itemOk then some (.st (.tuple (cut xs l h))) else none
  | _ => none
def revOf (r : R) : Option R := match r.d with
  | .list xs => if xs.all r.itemOk then some (.fr xs.reverse) else none
  | .tuple xs => if xs.all r.itemOk then some (.st (.tuple xs.reverse)) else none
  | _ => none
def B1.keeps : B1 → Bool
  | .tuple => true
  | .list => true
  | .sorted => true
  | _ => false
def b1Of (f : B1) (r : R) : Option R := if !f.keeps || ((items r.d).getD []).all r.itemOk then b1 f r.d else none
def countOf (xs : List D) (d : D) : Option R := if shallow (.list xs) d then some (.st (.int (xs.countP fun z => PyData.eqv z d : Nat))) else none
def tup? : D → Option (List D)
  | .tuple ds => some ds
  | _ => none
def isOl : Slot → Option Unit
  | .ol _ => some ()
  | _ => none
def walked (r : R) : Option (List D) := (items r.d).bind fun xs => if r.walks && xs.all r.itemOk then some xs else none
def isNil : List (List D) → Bool
  | [] => true
  | _ => false
def appNewOf : Slot → Option Slot
  | .ol [] => some (.ol2 [[]])
  | .ol2 xss => if xss.length < line then some (.ol2 (xss ++ [[]])) else none
  | _ => none
def appOf (d : D) : Slot → Option Slot
  | .ol xs => if xs.length < line then some (.ol (xs ++ [d])) else none
  | _ => none
def extOf (d : D) : Slot → Option Slot
  | .ol xs => (items d).bind fun ys => if xs.length + ys.length ≤ line then some (.ol (xs ++ ys)) else none
  | _ => none
def popOf : Slot → Option (D × Slot)
  | .ol xs => xs.getLast?.map fun d => (d, .ol xs.dropLast)
  | _ => none
def popAtOf (z : Int) : Slot → Option (D × Slot)
  | .ol xs => if smallI z then (ixN xs.length z).bind fun j => xs[j]?.map fun d => (d, .ol (xs.eraseIdx j)) else none
  | _ => none
def setOf (z : Int) (d : D) : Slot → Option Slot
  | .ol xs => (ixN xs.length z).map fun j => .ol (xs.set j d)
  | _ => none
def atAppOf (z : Int) : Slot → Option (List (List D) × Nat)
  | .ol2 xss => (ixN xss.length z).map fun j => (xss, j)
  | _ => none
def intAt (z : Int) : Slot → Option Int
  | .ol xs => (atI xs z).bind int?
  | _ => none
def stInt : R → Option Int
  | .st (.int i) => some i
  | _ => none
def intIn : Slot → Option Int
  | .v (.int i) => some i
  | _ => none
/-- what a comprehension walks: an own list is out of sight meanwhile -/
def lentAt (it : It) (e : Env) : Option (Nat × List D) := match it, slot e it.pkIx with
  | .ex (.pk i), .ol xs => some (i, xs)
  | _, _ => none

section
variable (call : CallF)
mutual
/-- an expression -/
def ev : Ex → Env → Out R
  | .lit d, e => .ok (.st d) e
  | .glo x, e => (lift e (call.con x)).bind fun d e => .ok (.st d) e
  | .var i, e => (lift e (slot e i).freeze).bind fun ds e => .ok (.st ds.1) (e.set i ds.2)
  | .pk i, e => lift e (slot e i).look
  | .tup es, e => (evs es e).bind fun ds e1 => if ds.length ≤ line then .ok (.st (.tuple ds)) e1 else .bad
  | .lst es, e => (evs es e).bind fun ds e1 => if ds.length ≤ line then .ok (.fr ds) e1 else .bad
  | .bin o a b, e => (valOf (ev a e)).bind fun x e1 => (valOf (ev b e1)).bind fun y e2 => lift e2 (bin o x y)
  | .neg a, e => (intOf (ev a e)).bind fun i e1 => .ok (.st (.int (-i))) e1
  | .inv a, e => (intOf (ev a e)).bind fun i e1 => .ok (.st (.int (-i - 1))) e1
  | .not a, e => (truthOf (ev a e)).bind fun b e1 => .ok (.st (.bool (!b))) e1
  | .and a b, e => (valOf (ev a e)).bind fun x e1 => (lift e1 (truthy x)).bind fun k e1 => if k = true then ev b e1 else .ok (.st x) e1
  | .or a b, e => (valOf (ev a e)).bind fun x e1 => (lift e1 (truthy x)).bind fun k e1 => if k = true then .ok (.st x) e1 else ev b e1
  | .cmp o a b, e => (ev a e).bind fun ra e1 => (ev b e1).bind fun rb e2 => (lift e2 (later a ra e2)).bind fun r e2 => (lift e2 (cmp o r.d rb.d)).bind fun c e2 => .ok (.st (.bool c)) e2
  | .chain o p a b c, e => (valOf (ev a e)).bind fun x e1 => (valOf (ev b e1)).bind fun y e2 => (lift e2 (cmp o x y)).bind fun k e2 =>
    if k = true then (valOf (ev c e2)).bind fun z e3 => (lift e3 (cmp p y z)).bind fun k e3 => .ok (.st (.bool k)) e3 else .ok (.st (.bool false)) e2
  | .ife c a b, e => (truthOf (ev c e)).bind fun k e1 => if k = true then ev a e1 else ev b e1
  | .idx a i, e => (ev a e).bind fun ra e1 => (intOf (ev i e1)).bind fun k e2 => (lift e2 (later a ra e2)).bind fun r e2 => lift e2 (itemAt r k)
  | .slc a lo hi, e => (ev a e).bind fun ra e1 => (valOf (ev lo e1)).bind fun dl e2 => (lift e2 (part dl)).bind fun l e2 => (valOf (ev hi e2)).bind fun dh e3 => (lift e3 (part dh)).bind fun h e3 =>
    (lift e3 (later a ra e3)).bind fun r e3 => lift e3 (sliceOf r l h)
  | .rev a, e => (ev a e).bind fun ra e1 => lift e1 (revOf ra)
  | .b1 f a, e => (ev a e).bind fun ra e1 => lift e1 (b1Of f ra)
  | .b2 f a b, e => (valOf (ev a e)).bind fun x e1 => (valOf (ev b e1)).bind fun y e2 => (lift e2 (b2 f x y)).bind fun d e2 => .ok (.st d) e2
  | .count a x, e => (ev a e).bind fun ra e1 => (lift e1 (tup? ra.d)).bind fun xs e1 => (valOf (ev x e1)).bind fun d e2 => lift e2 (countOf xs d)
  | .call f es, e => match call.fn f with
    | none => .bad
    | some g => (evArgs es e).bind fun as e1 => (lift e1 (argSlots e1 as)).bind fun ss e1 => if argsOk as = true then (match g ss with
      | .ret r outs => if r.free = true then .ok r (backs as outs e1) else .bad
      | .exc x outs => .exc x (backs as outs e1)
      | .bad => .bad) else .bad
  | .io _, _ => .bad
  | .app i x, e => (lift e (isOl (slot e i))).bind fun _ e => (valOf (ev x e)).bind fun d e1 => (lift e1 (appOf d (slot e1 i))).bind fun s e1 => .ok (.st .none) (e1.set i s)
  | .appNew i, e => (lift e (appNewOf (slot e i))).bind fun s e => .ok (.st .none) (e.set i s)
  | .appAt i k x, e => (lift e (slot e i).look).bind fun _ e => (intOf (ev k e)).bind fun z e1 => (lift e1 (atAppOf z (slot e1 i))).bind fun p e1 =>
      (valOf (ev x (e1.set i .u))).bind fun d e2 => (lift e2 p.1[p.2]?).bind fun ys e2 => if ys.length < line then .ok (.st .none) (e2.set i (.ol2 (p.1.set p.2 (ys ++ [d])))) else .bad
  | .ext i x, e => (lift e (isOl (slot e i))).bind fun _ e => (valOf (ev x e)).bind fun d e1 => (lift e1 (extOf d (slot e1 i))).bind fun s e1 => .ok (.st .none) (e1.set i s)
  | .pop i, e => (lift e (popOf (slot e i))).bind fun p e => .ok (.st p.1) (e.set i p.2)
  | .popAt i k, e => (lift e (isOl (slot e i))).bind fun _ e => (intOf (ev k e)).bind fun z e1 => (lift e1 (popAtOf z (slot e1 i))).bind fun p e1 => .ok (.st p.1) (e1.set i p.2)
  | .comp t it c x, e =>
      let turn := fun (y : D) (ey : Env) => (lift ey (t.bind y (wipe ey t.vars))).bind fun e2 _ => (truthOf (ev c e2)).bind fun k e3 => if k = true then (valOf (ev x e3)).bind fun d e4 => .ok (some d) e4 else .ok none e3
      match lentAt it e with
      | some (i, xs) => (match compLoop turn xs [] (e.set i .u) with
        | .ok acc e2 => .ok (.fr acc) ((restore (e.set i .u) e2 t.vars).set i (.ol xs))
        | .exc _ _ => .bad
        | .bad => .bad)
      | none => (evI it e).bind fun xs e1 => (match compLoop turn xs [] e1 with
        | .ok acc e2 => .ok (.fr acc) (restore e1 e2 t.vars)
        | .exc _ _ => .bad
        | .bad => .bad)
  | .sortk t it k, e => (evI it e).bind fun xs e1 =>
      match compLoop (fun y ey => (lift ey (t.bind y (wipe ey t.vars))).bind fun e2 _ => (valOf (ev k e2)).bind fun d e4 => .ok (some d) e4) xs [] e1 with
      | .ok ks e2 => if sortable ks = true then .ok (.fr ((sortBy Prod.fst (ks.zip xs)).map Prod.snd)) (restore e1 e2 t.vars) else .bad
      | .exc _ _ => .bad
      | .bad => .bad
  | .itL it, e => (evI it e).bind fun xs e1 => if xs.length ≤ line then .ok (.fr xs) e1 else .bad
  | .itT it, e => (evI it e).bind fun xs e1 => if xs.length ≤ line then .ok (.st (.tuple xs)) e1 else .bad
def evs : Exs → Env → Out (List D)
  | .nil, e => .ok [] e
  | .cons a r, e => (valOf (ev a e)).bind fun d e1 => (evs r e1).bind fun ds e2 => .ok (d :: ds) e2
def evArgs : Exs → Env → Out (List Arg)
  | .nil, e => .ok [] e
  | .cons a r, e => match a with
    | .io i => (lift e (slot e i).look).bind fun _ e => (evArgs r e).bind fun as e2 => .ok (.io i :: as) e2
    | .pk i => (lift e (slot e i).look).bind fun _ e => (evArgs r e).bind fun as e2 => .ok (.lent i :: as) e2
    | a => (valOf (ev a e)).bind fun d e1 => (evArgs r e1).bind fun as e2 => .ok (.val d :: as) e2
/-- what is walked: its items -/
def evI : It → Env → Out (List D)
  | .range a, e => (intOf (ev a e)).bind fun n e1 => if smallI n = true then .ok (rangeL 0 (rangeN 0 n) 1) e1 else .bad
  | .range2 a b, e => (intOf (ev a e)).bind fun m e1 => (intOf (ev b e1)).bind fun n e2 => if smallI m = true ∧ smallI n = true then .ok (rangeL m (rangeN m n) 1) e2 else .bad
  | .range3 a b c, e => (intOf (ev a e)).bind fun m e1 => (intOf (ev b e1)).bind fun n e2 => (intOf (ev c e2)).bind fun k e3 => if k = -1 ∧ smallI m = true ∧ smallI n = true then .ok (rangeL m (rangeN n m) (-1)) e3 else .bad
  | .enum a, e => (ev a e).bind fun ra e1 => (lift e1 (walked ra)).bind fun xs e1 => .ok (pairs 0 xs) e1
  | .zip a b, e => (ev a e).bind fun ra e1 => (ev b e1).bind fun rb e2 => (lift e2 (walked ra)).bind fun xs e2 => (lift e2 (walked rb)).bind fun ys e2 => .ok (zips xs ys) e2
  | .ex it, e => (ev it e).bind fun ra e1 => lift e1 (walked ra)
end

inductive Flow where
  | nx
  | rt (r : R)

/-- a while's most turns -/
def turns : Nat := 1000000

def whileLoop (c : Env → Out Bool) (body : Env → Out Flow) : Nat → Env → Out Flow
  | 0, _ => .bad
  | n + 1, e => (c e).bind fun b e1 => if b = true then (body e1).bind fun f e2 => (match f with
      | .nx => whileLoop c body n e2
      | .rt r => .ok (.rt r) e2) else .ok .nx e1
def forLoop (bind : D → Env → Option Env) (body : Env → Out Flow) : List D → Env → Out Flow
  | [], e => .ok .nx e
  | x :: xs, e => match bind x e with
    | some e1 => (body e1).bind fun f e2 => (match f with
      | .nx => forLoop bind body xs e2
      | .rt r => .ok (.rt r) e2)
    | none => .bad
/-- an own list moves to another name -/
def moveOf : Slot → Option (Slot × Slot)
  | .ol xs => some (.u, .ol xs)
  | .v d => some (.v d, .v d)
  | .b d => some (.b d, .b d)
  | _ => none
/-- a name's value handed back -/
def retOf : Slot → Option (R × Slot)
  | .ol xs => some (.fr xs, .u)
  | .v d => some (.st d, .v d)
  | .b d => if immut d then some (.st d, .b d) else none
  | _ => none
def R.ret : R → Option R
  | .st d => some (.st d)
  | .fr xs => some (.fr xs)
  | .bor d => if immut d then some (.st d) else none
  | _ => none

/-! ### except suites: they change nothing, and hand back values -/
def XKind.ok : XKind → List D → Bool
  | .one, [.str y] => decide (y.length ≤ 900)
  | .two, [.none, .str y] => decide (y.length ≤ 900)
  | .two, [.int i, .str y] => decide (y.length ≤ 900) && decide (i.natAbs.log2 < 1920) && decide ((Str.ofString (toString i)).length ≤ 900)
  | .two, [.str z, .str y] => decide (y.length ≤ 900) && decide (z.length ≤ 900)
  | .many, [.str y, .int i] => decide (y.length ≤ 900) && decide (i.natAbs.log2 < 1920) && decide ((Str.ofString (toString i)).length ≤ 900)
  | .quiet, [d] => immut d
  | _, _ => false
/-- the field f of an exception -/
def fldOf (i : XCls) (x : Exn) (f : String) : Option D := (((i.flds.map Str.ofString).zip x.args).reverse).lookup (Str.ofString f)
def hev (cls : String → Option XCls) (x : Exn) (e : Env) : HEx → Option D
  | .lit d => some d
  | .var i => (match slot e i with
    | .v d => some d
    | .b d => if immut d = true then some d else none
    | _ => none)
  | .fld f => (cls x.cls).bind fun i => fldOf i x f
  | .isC c => (cls x.cls).bind fun i => (cls c).map fun _ => .bool (i.ups.contains c)
  | .not a => (hev cls x e a).bind fun d => (truthy d).map fun b => .bool (!b)
  | .and a b => (hev cls x e a).bind fun d => (truthy d).bind fun k => if k = true then hev cls x e b else some d
  | .or a b => (hev cls x e a).bind fun d => (truthy d).bind fun k => if k = true then some d else hev cls x e b
  | .cmp o a b => (hev cls x e a).bind fun d1 => (hev cls x e b).bind fun d2 => (cmp o d1 d2).map .bool
  | .ife c a b => (hev cls x e c).bind fun d => (truthy d).bind fun k => if k = true then hev cls x e a else hev cls x e b
  | .nil => some (.tuple [])
  | .tup1 a => (hev cls x e a).map fun d => .tuple [d]
  | .tup2 a b => (hev cls x e a).bind fun d1 => (hev cls x e b).map fun d2 => .tuple [d1, d2]
mutual
def hst (cls : String → Option XCls) (x : Exn) (e : Env) : HSt → Option (Option D)
  | .ret h => (hev cls x e h).map some
  | .ite c a b => (hev cls x e c).bind fun d => (truthy d).bind fun k => if k = true then hss cls x e a else hss cls x e b
/-- none: it runs through -/
def hss (cls : String → Option XCls) (x : Exn) (e : Env) : HSs → Option (Option D)
  | .nil => some none
  | .cons s ss => (hst cls x e s).bind fun r => match r with
    | some d => some (some d)
    | none => hss cls x e ss
end
def catches (cls : String → Option XCls) (c : String) (x : Exn) : Option Bool := (cls x.cls).bind fun i => (cls c).map fun _ => i.ups.contains c
def Hds.known (cls : String → Option XCls) : Hds → Bool
  | .one c _ => (cls c).isSome
  | .named c _ _ => (cls c).isSome
  | .two c _ c2 _ => (cls c).isSome && (cls c2).isSome
def suiteOut (e : Env) : Option (Option D) → Out Flow
  | some (some d) => .ok (.rt (.st d)) e
  | some none => .ok .nx e
  | none => .bad
/-- what the clauses do with an exception -/
def handle (io : List Nat) (cls : String → Option XCls) (x : Exn) (e : Env) : Hds → Out Flow
  | .one c h => (match catches cls c x with
    | some true => suiteOut e (hss cls x e h)
    | some false => .exc x e
    | none => .bad)
  | .named c i h => if io.contains i = true ∨ ¬ i < e.length then .bad else (match catches cls c x with
    | some true => suiteOut (e.set i .u) (hss cls x (e.set i .u) h)
    | some false => .exc x e
    | none => .bad)
  | .two c h c2 h2 => (match catches cls c x with
    | some true => suiteOut e (hss cls x e h)
    | some false => (match catches cls c2 x with
      | some true => suiteOut e (hss cls x e h2)
      | some false => .exc x e
      | none => .bad)
    | none => .bad)

mutual
/-- a statement; io: the parameters that the caller lent for change -/
def exec (io : List Nat) : St → Env → Out Flow
  | .expr x, e => (ev call x e).bind fun _ e1 => .ok .nx e1
  | .raise c es, e => match call.cls c with
    | some i => if i.kind = .base then .bad else (evs call es e).bind fun ds e1 => if i.kind.ok ds = true ∧ i.flds.length = ds.length then .exc ⟨c, ds⟩ e1 else .bad
    | none => .bad
  | .try b h, e => if h.known call.cls = true then (match execs io b e with
    | .ok fl e1 => .ok fl e1
    | .exc x e1 => handle io call.cls x e1 h
    | .bad => .bad) else .bad
  | .asg i x, e => if io.contains i = true then .bad else (ev call x e).bind fun r e1 => (lift e1 r.keep).bind fun s e1 => .ok .nx (e1.set i s)
  | .asgO i x, e => if io.contains i = true then .bad else match x with
    | .pk j => if io.contains j = true then .bad else (lift e (moveOf (slot e j))).bind fun p e => .ok .nx ((e.set j p.1).set i p.2)
    | x => (ev call x e).bind fun r e1 => (lift e1 r.slot).bind fun s e1 => .ok .nx (e1.set i s)
  | .asgT is x, e => if is.any io.contains = true then .bad else (valOf (ev call x e)).bind fun d e1 => (lift e1 (tup? d)).bind fun ds e1 => (lift e1 (setAll e1 is ds)).bind fun e2 _ => .ok .nx e2
  | .asgI i k x, e => (valOf (ev call x e)).bind fun d e1 => (lift e1 (slot e1 i).look).bind fun _ e1 => (intOf (ev call k e1)).bind fun z e2 => (lift e2 (setOf z d (slot e2 i))).bind fun s e2 => .ok .nx (e2.set i s)
  | .aug i o x, e => if io.contains i = true then .bad else (lift e (intIn (slot e i))).bind fun m e => (intOf (ev call x e)).bind fun n e1 => (lift e1 (bin o (.int m) (.int n))).bind fun r e1 => (lift e1 (stInt r)).bind fun k e1 => .ok .nx (e1.set i (.v (.int k)))
  | .augI i k o x, e => (lift e (slot e i).look).bind fun _ e => (intOf (ev call k e)).bind fun z e1 => (lift e1 (intAt z (slot e1 i))).bind fun m e1 => (intOf (ev call x e1)).bind fun n e2 =>
      (lift e2 (bin o (.int m) (.int n))).bind fun r e2 => (lift e2 (stInt r)).bind fun v e2 => (lift e2 (setOf z (.int v) (slot e2 i))).bind fun s e2 => .ok .nx (e2.set i s)
  | .ite c a b, e => (truthOf (ev call c e)).bind fun k e1 => if k = true then execs io a e1 else execs io b e1
  | .while c b, e => whileLoop (fun e => truthOf (ev call c e)) (execs io b) turns e
  | .for t it b, e => if t.vars.any io.contains = true then .bad else (evI call it e).bind fun xs e1 => forLoop t.bind (execs io b) xs e1
  | .ret x, e => match x with
    | .pk j => if io.contains j = true then .bad else (lift e (retOf (slot e j))).bind fun p e => .ok (.rt p.1) (e.set j p.2)
    | x => (ev call x e).bind fun r e1 => (lift e1 r.ret).bind fun r e1 => .ok (.rt r) e1
  | .retN, e => .ok (.rt (.st .none)) e
  | .pass, e => .ok .nx e
def execs (io : List Nat) : Sts → Env → Out Flow
  | .nil, e => .ok .nx e
  | .cons s ss, e => (exec io s e).bind fun f e1 => match f with
    | .nx => execs io ss e1
    | .rt r => .ok (.rt r) e1
end
end

structure Table where
  fn : String → Option MFun
  con : String → Option D
  cls : String → Option XCls

/-- the slots handed back: those that were lent for change -/
def outsOf (F : MFun) (e : Env) : List Slot := (List.range F.params).map fun i => if F.io.contains i = true then slot e i else .u
def runFun (call : CallF) (F : MFun) (ss : List Slot) : COut :=
  if ss.length = F.params ∧ ((List.range F.params).all fun i => F.io.contains i || (slot ss i).notOwn) = true then match execs call F.io F.body (ss ++ List.replicate (F.slots - F.params) .u) with
    | .ok .nx e => .ret (.st .none) (outsOf F e)
    | .ok (.rt r) e => .ret r (outsOf F e)
    | .exc x e => .exc x (outsOf F e)
    | .bad => .bad
  else .bad
/-- a call, at most n calls deep -/
def callN (L : Table) : Nat → CallF
  | 0 => ⟨fun _ => none, L.con, L.cls⟩
  | n + 1 => ⟨fun f => (L.fn f).map fun F ss => runFun (callN L n) F ss, L.con, L.cls⟩
example (call : CallF) (d : D) (e : Env) : ev call (.not (.lit (.bool true))) e = .ok (.st (.bool false)) e := rfl
end MP
end

section
set_option autoImplicit false
set_option linter.all false
set_option maxRecDepth 100000
/-! Reasoning about Mini's programs: what a run asks, rules for loops and calls. All that follows a step has a name (k..), so that simp does not look into it before its turn. -/
namespace MP
open PySem
/-- a run's outcome is as wished -/
def Wp {α : Type} (o : Out α) (P : α → Env → Prop) (E : Exn → Env → Prop) : Prop := match o with
  | .ok a e => P a e
  | .exc x e => E x e
  | .bad => False
def CWp (o : COut) (P : R → List Slot → Prop) (E : Exn → List Slot → Prop) : Prop := match o with
  | .ret r outs => P r outs
  | .exc x outs => E x outs
  | .bad => False
def callOut (call : CallF) (f : String) (ss : List Slot) : COut := match call.fn f with
  | some g => g ss
  | none => .bad
section
variable {α β : Type} {P : α → Env → Prop} {E : Exn → Env → Prop} {e : Env}
def kk (f : β → Env → Out α) (P : α → Env → Prop) (E : Exn → Env → Prop) : β → Env → Prop := fun b e => Wp (f b e) P E
@[simp] theorem kk_app (f : β → Env → Out α) (b : β) (e : Env) : kk f P E b e = Wp (f b e) P E := rfl
@[simp] theorem Wp_ok (a : α) : Wp (.ok a e) P E = P a e := rfl
@[simp] theorem Wp_exc (x : Exn) : Wp (.exc x e) P E = E x e := rfl
@[simp] theorem Wp_bad : Wp (.bad : Out α) P E = False := rfl
theorem Wp_bind (o : Out β) (f : β → Env → Out α) : Wp (o.bind f) P E = Wp o (kk f P E) E := by cases o <;> rfl
@[simp] theorem lift_some (a : α) : lift e (some a) = .ok a e := rfl
@[simp] theorem lift_none : lift e (none : Option α) = .bad := rfl
@[simp] theorem bind_ok (a : β) (f : β → Env → Out α) : (Out.ok a e).bind f = f a e := rfl
@[simp] theorem bind_exc (x : Exn) (f : β → Env → Out α) : (Out.exc x e : Out β).bind f = .exc x e := rfl
@[simp] theorem bind_bad (f : β → Env → Out α) : (Out.bad : Out β).bind f = .bad := rfl
theorem Wp_if (c : Prop) [Decidable c] (a b : Out α) : Wp (if c then a else b) P E = if c then Wp a P E else Wp b P E := by split <;> rfl
@[simp] theorem CWp_ret (r : R) (outs : List Slot) (P : R → List Slot → Prop) (E : Exn → List Slot → Prop) : CWp (.ret r outs) P E = P r outs := rfl
@[simp] theorem CWp_exc (x : Exn) (outs : List Slot) (P : R → List Slot → Prop) (E : Exn → List Slot → Prop) : CWp (.exc x outs) P E = E x outs := rfl
@[simp] theorem CWp_bad (P : R → List Slot → Prop) (E : Exn → List Slot → Prop) : CWp .bad P E = False := rfl
theorem Wp.mono {o : Out α} {P' : α → Env → Prop} {E' : Exn → Env → Prop} (h : Wp o P E) (hp : ∀ a e, P a e → P' a e) (he : ∀ x e, E x e → E' x e) : Wp o P' E' := by
  cases o with
  | ok a e => exact hp a e h
  | exc x e => exact he x e h
  | bad => exact h
theorem CWp.mono {o : COut} {P P' : R → List Slot → Prop} {E E' : Exn → List Slot → Prop} (h : CWp o P E) (hp : ∀ a e, P a e → P' a e) (he : ∀ x e, E x e → E' x e) : CWp o P' E' := by
  cases o with
  | ret a e => exact hp a e h
  | exc x e => exact he x e h
  | bad => exact h
end
/-- a name that nothing looks behind -/
theorem opq {α : Sort _} (a : α) : ∃ b, b = a := ⟨a, rfl⟩
/-! ### calls -/
def kCall (as : List Arg) (e : Env) (P : R → Env → Prop) : R → List Slot → Prop := fun r outs => r.free = true ∧ P r (backs as outs e)
def kCallX (as : List Arg) (e : Env) (E : Exn → Env → Prop) : Exn → List Slot → Prop := fun x outs => E x (backs as outs e)
@[simp] theorem kCall_app (as : List Arg) (e : Env) (P : R → Env → Prop) (r : R) (outs : List Slot) : kCall as e P r outs = (r.free = true ∧ P r (backs as outs e)) := rfl
@[simp] theorem kCallX_app (as : List Arg) (e : Env) (E : Exn → Env → Prop) (x : Exn) (outs : List Slot) : kCallX as e E x outs = E x (backs as outs e) := rfl
theorem wp_call {call : CallF} {f : String} {es : Exs} {e e1 : Env} {as : List Arg} {ss : List Slot} {P : R → Env → Prop} {E : Exn → Env → Prop} (hs : (call.fn f).isSome = true)
    (h1 : evArgs call es e = .ok as e1) (h2 : argSlots e1 as = some ss) (h3 : argsOk as = true) (h : CWp (callOut call f ss) (kCall as e1 P) (kCallX as e1 E)) : Wp (ev call (.call f es) e) P E := by
  obtain ⟨g, hg⟩ := Option.isSome_iff_exists.mp hs
  unfold ev
  rw [hg]
  simp only [h1, bind_ok, h2, lift_some, h3, if_true]
  unfold callOut at h
  rw [hg] at h
  simp only at h
  cases hq : g ss with
  | ret r outs =>
    rw [hq] at h
    simp only [CWp_ret, kCall_app] at h
    simp only [h.1, if_true]
    exact h.2
  | exc x outs => rw [hq] at h; exact h
  | bad => rw [hq] at h; exact h
/-- .. where the arguments are reckoned with calls -/
def kArgs (call : CallF) (f : String) (P : R → Env → Prop) (E : Exn → Env → Prop) : List Arg → Env → Prop := fun as e1 => ∃ ss, argSlots e1 as = some ss ∧ argsOk as = true ∧ CWp (callOut call f ss) (kCall as e1 P) (kCallX as e1 E)
@[simp] theorem kArgs_app (call : CallF) (f : String) (P : R → Env → Prop) (E : Exn → Env → Prop) (as : List Arg) (e1 : Env) : kArgs call f P E as e1 = ∃ ss, argSlots e1 as = some ss ∧ argsOk as = true ∧ CWp (callOut call f ss) (kCall as e1 P) (kCallX as e1 E) := rfl
theorem wp_callA {call : CallF} {f : String} {es : Exs} {e : Env} {P : R → Env → Prop} {E : Exn → Env → Prop} (hs : (call.fn f).isSome = true) (h : Wp (evArgs call es e) (kArgs call f P E) E) : Wp (ev call (.call f es) e) P E := by
  cases hq : evArgs call es e with
  | ok as e1 =>
    rw [hq] at h
    obtain ⟨ss, h2, h3, h4⟩ := h
    exact wp_call hs hq h2 h3 h4
  | exc x e1 =>
    rw [hq] at h
    obtain ⟨g, hg⟩ := Option.isSome_iff_exists.mp hs
    unfold ev
    rw [hg]
    simp only [hq]
    exact h
  | bad => rw [hq] at h; exact h.elim
theorem callOut_some {L : Table} {n : Nat} {f : String} {F : MFun} (hF : L.fn f = some F) (ss : List Slot) : callOut (callN L (n + 1)) f ss = runFun (callN L n) F ss := by
  show (match (L.fn f).map fun F ss => runFun (callN L n) F ss with | some g => g ss | none => .bad) = _
  rw [hF]
  rfl
theorem fn_isSome {L : Table} {n : Nat} {f : String} {F : MFun} (hF : L.fn f = some F) : ((callN L (n + 1)).fn f).isSome = true := by
  show ((L.fn f).map fun F ss => runFun (callN L n) F ss).isSome = true
  rw [hF]
  rfl
@[simp] theorem callN_con {L : Table} {n : Nat} : (callN L n).con = L.con := by cases n <;> rfl
@[simp] theorem callN_cls {L : Table} {n : Nat} : (callN L n).cls = L.cls := by cases n <;> rfl
def outsN (p : Nat) (io : List Nat) (e : Env) : List Slot := (List.range p).map fun i => if io.contains i = true then slot e i else .u
def kRet (p : Nat) (io : List Nat) (P : R → List Slot → Prop) : Flow → Env → Prop := fun fl e => match fl with
  | .nx => P (.st .none) (outsN p io e)
  | .rt r => P r (outsN p io e)
def kRetX (p : Nat) (io : List Nat) (E : Exn → List Slot → Prop) : Exn → Env → Prop := fun x e => E x (outsN p io e)
@[simp] theorem kRet_nx (p : Nat) (io : List Nat) (P : R → List Slot → Prop) (e : Env) : kRet p io P .nx e = P (.st .none) (outsN p io e) := rfl
@[simp] theorem kRet_rt (p : Nat) (io : List Nat) (P : R → List Slot → Prop) (r : R) (e : Env) : kRet p io P (.rt r) e = P r (outsN p io e) := rfl
@[simp] theorem kRetX_app (p : Nat) (io : List Nat) (E : Exn → List Slot → Prop) (x : Exn) (e : Env) : kRetX p io E x e = E x (outsN p io e) := rfl
/-- a def runs -/
theorem wp_fun {call : CallF} {F : MFun} {ss : List Slot} {P : R → List Slot → Prop} {E : Exn → List Slot → Prop} (hl : ss.length = F.params) (hn : ((List.range F.params).all fun i => F.io.contains i || (slot ss i).notOwn) = true)
    (h : Wp (execs call F.io F.body (ss ++ List.replicate (F.slots - F.params) .u)) (kRet F.params F.io P) (kRetX F.params F.io E)) : CWp (runFun call F ss) P E := by
  unfold runFun
  rw [if_pos ⟨hl, hn⟩]
  cases hq : execs call F.io F.body (ss ++ List.replicate (F.slots - F.params) .u) with
  | ok fl e => rw [hq] at h; cases fl <;> exact h
  | exc x e => rw [hq] at h; exact h
  | bad => rw [hq] at h; exact h
/-! ### loops -/
def kTurn (I : Env → Prop) (P : Flow → Env → Prop) : Flow → Env → Prop := fun f e => match f with
  | .nx => I e
  | .rt r => P (.rt r) e
@[simp] theorem kTurn_nx (I : Env → Prop) (P : Flow → Env → Prop) (e : Env) : kTurn I P .nx e = I e := rfl
@[simp] theorem kTurn_rt (I : Env → Prop) (P : Flow → Env → Prop) (r : R) (e : Env) : kTurn I P (.rt r) e = P (.rt r) e := rfl
theorem wp_forK {bind : D → Env → Option Env} {body : Env → Out Flow} {P : Flow → Env → Prop} {E : Exn → Env → Prop} (I : Nat → Env → Prop) : ∀ (xs : List D) (k : Nat) (e : Env), I k e →
    (∀ (i : Nat) (x : D) (e : Env), xs[i]? = some x → I (k + i) e → ∃ e1, bind x e = some e1 ∧ Wp (body e1) (kTurn (I (k + i + 1)) P) E) → (∀ e, I (k + xs.length) e → P .nx e) → Wp (forLoop bind body xs e) P E
  | [], k, e, h0, hb, he => he e h0
  | x :: xs, k, e, h0, hb, he => by
    obtain ⟨e1, h1, h2⟩ := hb 0 x e rfl h0
    unfold forLoop
    simp only [h1, Wp_bind]
    refine h2.mono (fun f e2 q => ?_) fun _ _ q => q
    cases f with
    | nx =>
      refine wp_forK I xs (k + 1) e2 q (fun i y e hi hI => ?_) fun e hI => he e (by rw [List.length_cons, show k + (xs.length + 1) = k + 1 + xs.length by omega]; exact hI)
      have := hb (i + 1) y e (by simpa using hi) (by rw [show k + (i + 1) = k + 1 + i by omega]; exact hI)
      rw [show k + (i + 1) + 1 = k + 1 + i + 1 by omega] at this
      exact this
    | rt r => exact q
/-- for: I k e: k turns are done -/
theorem wp_for {bind : D → Env → Option Env} {body : Env → Out Flow} {P : Flow → Env → Prop} {E : Exn → Env → Prop} {xs : List D} {e : Env} (I : Nat → Env → Prop) (h0 : I 0 e)
    (hb : ∀ (k : Nat) (x : D) (e : Env), xs[k]? = some x → I k e → ∃ e1, bind x e = some e1 ∧ Wp (body e1) (kTurn (I (k + 1)) P) E) (he : ∀ e, I xs.length e → P .nx e) : Wp (forLoop bind body xs e) P E :=
  wp_forK I xs 0 e h0 (fun i x e hi hI => by rw [Nat.zero_add] at hI ⊢; exact hb i x e hi hI) fun e hI => he e (by rwa [Nat.zero_add] at hI)
def kNext (bind : D → Env → Option Env) (body : Env → Out Flow) (xs : List D) (P : Flow → Env → Prop) (E : Exn → Env → Prop) : Env → Prop := fun e => Wp (forLoop bind body xs e) P E
@[simp] theorem kNext_app (bind : D → Env → Option Env) (body : Env → Out Flow) (xs : List D) (P : Flow → Env → Prop) (E : Exn → Env → Prop) (e : Env) : kNext bind body xs P E e = Wp (forLoop bind body xs e) P E := rfl
/-- one turn -/
theorem wp_for1 {bind : D → Env → Option Env} {body : Env → Out Flow} {P : Flow → Env → Prop} {E : Exn → Env → Prop} {x : D} {xs : List D} {e e1 : Env} (h1 : bind x e = some e1) (h2 : Wp (body e1) (kTurn (kNext bind body xs P E) P) E) : Wp (forLoop bind body (x :: xs) e) P E := by
  unfold forLoop
  simp only [h1]
  rw [Wp_bind]
  refine h2.mono (fun f e2 q => ?_) fun _ _ q => q
  cases f with
  | nx => exact q
  | rt r => exact q
theorem wp_for0 {bind : D → Env → Option Env} {body : Env → Out Flow} {P : Flow → Env → Prop} {E : Exn → Env → Prop} {e : Env} (h : P .nx e) : Wp (forLoop bind body [] e) P E := h
def kItem (I : List D → Env → Prop) (acc : List D) : Option D → Env → Prop := fun y e => match y with
  | some y => I (acc ++ [y]) e
  | none => I acc e
@[simp] theorem kItem_some (I : List D → Env → Prop) (acc : List D) (y : D) (e : Env) : kItem I acc (some y) e = I (acc ++ [y]) e := rfl
@[simp] theorem kItem_none (I : List D → Env → Prop) (acc : List D) (e : Env) : kItem I acc none e = I acc e := rfl
theorem wp_compK {turn : D → Env → Out (Option D)} {P : List D → Env → Prop} {E : Exn → Env → Prop} (I : Nat → List D → Env → Prop) : ∀ (xs : List D) (k : Nat) (acc : List D) (e : Env), I k acc e → acc.length + xs.length ≤ line →
    (∀ (i : Nat) (x : D) (acc : List D) (e : Env), xs[i]? = some x → I (k + i) acc e → Wp (turn x e) (kItem (I (k + i + 1)) acc) fun _ _ => False) → (∀ acc e, I (k + xs.length) acc e → P acc e) → Wp (compLoop turn xs acc e) P E
  | [], k, acc, e, h0, hl, hb, he => he acc e h0
  | x :: xs, k, acc, e, h0, hl, hb, he => by
    have h2 := hb 0 x acc e rfl h0
    rw [List.length_cons] at hl
    have go : ∀ (acc' : List D) (e2 : Env), acc'.length ≤ acc.length + 1 → I (k + 1) acc' e2 → Wp (compLoop turn xs acc' e2) P E := fun acc' e2 hl' q =>
      wp_compK I xs (k + 1) acc' e2 q (by omega) (fun i y acc e hi hI => by
        have := hb (i + 1) y acc e (by simpa using hi) (by rw [show k + (i + 1) = k + 1 + i by omega]; exact hI)
        rw [show k + (i + 1) + 1 = k + 1 + i + 1 by omega] at this
        exact this) fun acc e hI => he acc e (by rw [List.length_cons, show k + (xs.length + 1) = k + 1 + xs.length by omega]; exact hI)
    unfold compLoop
    cases hq : turn x e with
    | ok y e2 =>
      rw [hq] at h2
      cases y with
      | some y =>
        simp only
        rw [if_pos (by omega)]
        exact go _ _ (by simp) h2
      | none => exact go _ _ (by omega) h2
    | exc _ _ => rw [hq] at h2; exact h2.elim
    | bad => rw [hq] at h2; exact h2.elim
/-- a comprehension: I k acc e: k items are seen, acc is made -/
theorem wp_comp {turn : D → Env → Out (Option D)} {P : List D → Env → Prop} {E : Exn → Env → Prop} {xs : List D} {e : Env} (I : Nat → List D → Env → Prop) (h0 : I 0 [] e) (hl : xs.length ≤ line)
    (hb : ∀ (k : Nat) (x : D) (acc : List D) (e : Env), xs[k]? = some x → I k acc e → Wp (turn x e) (kItem (I (k + 1)) acc) fun _ _ => False) (he : ∀ acc e, I xs.length acc e → P acc e) : Wp (compLoop turn xs [] e) P E :=
  wp_compK I xs 0 [] e h0 (by simpa using hl) (fun i x acc e hi hI => by rw [Nat.zero_add] at hI ⊢; exact hb i x acc e hi hI) fun acc e hI => he acc e (by rwa [Nat.zero_add] at hI)
def kWh1 (body : Env → Out Flow) (I : Env → Prop) (P : Flow → Env → Prop) (E : Exn → Env → Prop) : Bool → Env → Prop := fun b e1 => if b = true then Wp (body e1) (kTurn I P) E else P .nx e1
@[simp] theorem kWh1_t (body : Env → Out Flow) (I : Env → Prop) (P : Flow → Env → Prop) (E : Exn → Env → Prop) (e1 : Env) : kWh1 body I P E true e1 = Wp (body e1) (kTurn I P) E := rfl
@[simp] theorem kWh1_f (body : Env → Out Flow) (I : Env → Prop) (P : Flow → Env → Prop) (E : Exn → Env → Prop) (e1 : Env) : kWh1 body I P E false e1 = P .nx e1 := rfl
/-- while: I m e, m falls each turn -/
theorem wp_while {c : Env → Out Bool} {body : Env → Out Flow} {P : Flow → Env → Prop} {E : Exn → Env → Prop} (I : Nat → Env → Prop) : ∀ (N m : Nat) (e : Env), m < N → I m e →
    (∀ (m : Nat) (e : Env), I m e → Wp (c e) (kWh1 body (fun e => ∃ m', m' < m ∧ I m' e) P E) E) → Wp (whileLoop c body N e) P E
  | 0, m, e, hm, h0, hb => by omega
  | N + 1, m, e, hm, h0, hb => by
    unfold whileLoop
    rw [Wp_bind]
    refine (hb m e h0).mono (fun b e1 q => ?_) fun _ _ q => q
    cases b with
    | true =>
      rw [kWh1_t] at q
      rw [kk_app, if_pos rfl, Wp_bind]
      refine q.mono (fun f e2 q => ?_) fun _ _ q => q
      cases f with
      | nx =>
        obtain ⟨m', h1, h2⟩ := q
        exact wp_while I N m' e2 (by omega) h2 hb
      | rt r => exact q
    | false => exact q
end MP
end

section
set_option autoImplicit false
set_option linter.all false
set_option maxRecDepth 100000
/-! Stepping through Mini's programs: one equation a construct; what follows has a name. -/
namespace MP
open PySem
@[simp] theorem slot_zero (s : Slot) (l : Env) : slot (s :: l) 0 = s := rfl
@[simp] theorem slot_succ (s : Slot) (l : Env) (n : Nat) : slot (s :: l) (n + 1) = slot l n := rfl
def kVal  : R → Env → Out D := fun r e => lift e r.val
@[simp] theorem kVal_app  (r : R) (e : Env) : kVal  r e = (lift e r.val) := rfl
def kTru  : R → Env → Out Bool := fun r e => lift e (truthy r.d)
@[simp] theorem kTru_app  (r : R) (e : Env) : kTru  r e = (lift e (truthy r.d)) := rfl
def kInt  : D → Env → Out Int := fun d e => lift e (int? d)
@[simp] theorem kInt_app  (d : D) (e : Env) : kInt  d e = (lift e (int? d)) := rfl
def kSt  : D → Env → Out R := fun d e => .ok (.st d) e
@[simp] theorem kSt_app  (d : D) (e : Env) : kSt  d e = (.ok (.st d) e) := rfl
def kVar (i : Nat) : D × Slot → Env → Out R := fun ds e => .ok (.st ds.1) (e.set i ds.2)
@[simp] theorem kVar_app (i : Nat) (ds : D × Slot) (e : Env) : kVar i ds e = (.ok (.st ds.1) (e.set i ds.2)) := rfl
def kTup  : List D → Env → Out R := fun ds e => if ds.length ≤ line then .ok (.st (.tuple ds)) e else .bad
@[simp] theorem kTup_app  (ds : List D) (e : Env) : kTup  ds e = (if ds.length ≤ line then .ok (.st (.tuple ds)) e else .bad) := rfl
def kLst  : List D → Env → Out R := fun ds e => if ds.length ≤ line then .ok (.fr ds) e else .bad
@[simp] theorem kLst_app  (ds : List D) (e : Env) : kLst  ds e = (if ds.length ≤ line then .ok (.fr ds) e else .bad) := rfl
def kBin2 (o : BOp) (x : D) : D → Env → Out R := fun y e => lift e (bin o x y)
@[simp] theorem kBin2_app (o : BOp) (x : D) (y : D) (e : Env) : kBin2 o x y e = (lift e (bin o x y)) := rfl
def kBin1 (call : CallF) (o : BOp) (b : Ex) : D → Env → Out R := fun x e => (valOf (ev call b e)).bind (kBin2 o x)
@[simp] theorem kBin1_app (call : CallF) (o : BOp) (b : Ex) (x : D) (e : Env) : kBin1 call o b x e = ((valOf (ev call b e)).bind (kBin2 o x)) := rfl
def kNeg  : Int → Env → Out R := fun i e => .ok (.st (.int (-i))) e
@[simp] theorem kNeg_app  (i : Int) (e : Env) : kNeg  i e = (.ok (.st (.int (-i))) e) := rfl
def kInv  : Int → Env → Out R := fun i e => .ok (.st (.int (-i - 1))) e
@[simp] theorem kInv_app  (i : Int) (e : Env) : kInv  i e = (.ok (.st (.int (-i - 1))) e) := rfl
def kNot  : Bool → Env → Out R := fun b e => .ok (.st (.bool (!b))) e
@[simp] theorem kNot_app  (b : Bool) (e : Env) : kNot  b e = (.ok (.st (.bool (!b))) e) := rfl
def kBool  : Bool → Env → Out R := fun b e => .ok (.st (.bool b)) e
@[simp] theorem kBool_app  (b : Bool) (e : Env) : kBool  b e = (.ok (.st (.bool b)) e) := rfl
def kAnd2 (call : CallF) (b : Ex) (x : D) : Bool → Env → Out R := fun k e => match k with | true => ev call b e | false => .ok (.st x) e
@[simp] theorem kAnd2_t (call : CallF) (b : Ex) (x : D) (e : Env) : kAnd2 call b x true e = (ev call b e) := rfl
@[simp] theorem kAnd2_f (call : CallF) (b : Ex) (x : D) (e : Env) : kAnd2 call b x false e = (.ok (.st x) e) := rfl
def kAnd1 (call : CallF) (b : Ex) : D → Env → Out R := fun x e => (lift e (truthy x)).bind (kAnd2 call b x)
@[simp] theorem kAnd1_app (call : CallF) (b : Ex) (x : D) (e : Env) : kAnd1 call b x e = ((lift e (truthy x)).bind (kAnd2 call b x)) := rfl
def kOr2 (call : CallF) (b : Ex) (x : D) : Bool → Env → Out R := fun k e => match k with | true => .ok (.st x) e | false => ev call b e
@[simp] theorem kOr2_t (call : CallF) (b : Ex) (x : D) (e : Env) : kOr2 call b x true e = (.ok (.st x) e) := rfl
@[simp] theorem kOr2_f (call : CallF) (b : Ex) (x : D) (e : Env) : kOr2 call b x false e = (ev call b e) := rfl
def kOr1 (call : CallF) (b : Ex) : D → Env → Out R := fun x e => (lift e (truthy x)).bind (kOr2 call b x)
@[simp] theorem kOr1_app (call : CallF) (b : Ex) (x : D) (e : Env) : kOr1 call b x e = ((lift e (truthy x)).bind (kOr2 call b x)) := rfl
def kCmp3 (o : COp) (rb : R) : R → Env → Out R := fun r e => (lift e (cmp o r.d rb.d)).bind kBool
@[simp] theorem kCmp3_app (o : COp) (rb : R) (r : R) (e : Env) : kCmp3 o rb r e = ((lift e (cmp o r.d rb.d)).bind kBool) := rfl
def kCmp2 (o : COp) (a : Ex) (ra : R) : R → Env → Out R := fun rb e => (lift e (later a ra e)).bind (kCmp3 o rb)
@[simp] theorem kCmp2_app (o : COp) (a : Ex) (ra : R) (rb : R) (e : Env) : kCmp2 o a ra rb e = ((lift e (later a ra e)).bind (kCmp3 o rb)) := rfl
def kCmp1 (call : CallF) (o : COp) (a b : Ex) : R → Env → Out R := fun ra e => (ev call b e).bind (kCmp2 o a ra)
@[simp] theorem kCmp1_app (call : CallF) (o : COp) (a b : Ex) (ra : R) (e : Env) : kCmp1 call o a b ra e = ((ev call b e).bind (kCmp2 o a ra)) := rfl
def kCh4 (p : COp) (y : D) : D → Env → Out R := fun z e => (lift e (cmp p y z)).bind kBool
@[simp] theorem kCh4_app (p : COp) (y : D) (z : D) (e : Env) : kCh4 p y z e = ((lift e (cmp p y z)).bind kBool) := rfl
def kCh3 (call : CallF) (p : COp) (c : Ex) (y : D) : Bool → Env → Out R := fun k e => match k with | true => (valOf (ev call c e)).bind (kCh4 p y) | false => .ok (.st (.bool false)) e
@[simp] theorem kCh3_t (call : CallF) (p : COp) (c : Ex) (y : D) (e : Env) : kCh3 call p c y true e = ((valOf (ev call c e)).bind (kCh4 p y)) := rfl
@[simp] theorem kCh3_f (call : CallF) (p : COp) (c : Ex) (y : D) (e : Env) : kCh3 call p c y false e = (.ok (.st (.bool false)) e) := rfl
def kCh2 (call : CallF) (o p : COp) (c : Ex) (x : D) : D → Env → Out R := fun y e => (lift e (cmp o x y)).bind (kCh3 call p c y)
@[simp] theorem kCh2_app (call : CallF) (o p : COp) (c : Ex) (x : D) (y : D) (e : Env) : kCh2 call o p c x y e = ((lift e (cmp o x y)).bind (kCh3 call p c y)) := rfl
def kCh1 (call : CallF) (o p : COp) (b c : Ex) : D → Env → Out R := fun x e => (valOf (ev call b e)).bind (kCh2 call o p c x)
@[simp] theorem kCh1_app (call : CallF) (o p : COp) (b c : Ex) (x : D) (e : Env) : kCh1 call o p b c x e = ((valOf (ev call b e)).bind (kCh2 call o p c x)) := rfl
def kIfe (call : CallF) (a b : Ex) : Bool → Env → Out R := fun k e => match k with | true => ev call a e | false => ev call b e
@[simp] theorem kIfe_t (call : CallF) (a b : Ex) (e : Env) : kIfe call a b true e = (ev call a e) := rfl
@[simp] theorem kIfe_f (call : CallF) (a b : Ex) (e : Env) : kIfe call a b false e = (ev call b e) := rfl
def kIdx3 (k : Int) : R → Env → Out R := fun r e => lift e (itemAt r k)
@[simp] theorem kIdx3_app (k : Int) (r : R) (e : Env) : kIdx3 k r e = (lift e (itemAt r k)) := rfl
def kIdx2 (a : Ex) (ra : R) : Int → Env → Out R := fun k e => (lift e (later a ra e)).bind (kIdx3 k)
@[simp] theorem kIdx2_app (a : Ex) (ra : R) (k : Int) (e : Env) : kIdx2 a ra k e = ((lift e (later a ra e)).bind (kIdx3 k)) := rfl
def kIdx1 (call : CallF) (a i : Ex) : R → Env → Out R := fun ra e => (intOf (ev call i e)).bind (kIdx2 a ra)
@[simp] theorem kIdx1_app (call : CallF) (a i : Ex) (ra : R) (e : Env) : kIdx1 call a i ra e = ((intOf (ev call i e)).bind (kIdx2 a ra)) := rfl
def kSlc5 (l h : Option Int) : R → Env → Out R := fun r e => lift e (sliceOf r l h)
@[simp] theorem kSlc5_app (l h : Option Int) (r : R) (e : Env) : kSlc5 l h r e = (lift e (sliceOf r l h)) := rfl
def kSlc4 (a : Ex) (ra : R) (l : Option Int) : Option Int → Env → Out R := fun h e => (lift e (later a ra e)).bind (kSlc5 l h)
@[simp] theorem kSlc4_app (a : Ex) (ra : R) (l : Option Int) (h : Option Int) (e : Env) : kSlc4 a ra l h e = ((lift e (later a ra e)).bind (kSlc5 l h)) := rfl
def kSlc3 (a : Ex) (ra : R) (l : Option Int) : D → Env → Out R := fun dh e => (lift e (part dh)).bind (kSlc4 a ra l)
@[simp] theorem kSlc3_app (a : Ex) (ra : R) (l : Option Int) (dh : D) (e : Env) : kSlc3 a ra l dh e = ((lift e (part dh)).bind (kSlc4 a ra l)) := rfl
def kSlc2 (call : CallF) (a hi : Ex) (ra : R) : Option Int → Env → Out R := fun l e => (valOf (ev call hi e)).bind (kSlc3 a ra l)
@[simp] theorem kSlc2_app (call : CallF) (a hi : Ex) (ra : R) (l : Option Int) (e : Env) : kSlc2 call a hi ra l e = ((valOf (ev call hi e)).bind (kSlc3 a ra l)) := rfl
def kSlc1 (call : CallF) (a hi : Ex) (ra : R) : D → Env → Out R := fun dl e => (lift e (part dl)).bind (kSlc2 call a hi ra)
@[simp] theorem kSlc1_app (call : CallF) (a hi : Ex) (ra : R) (dl : D) (e : Env) : kSlc1 call a hi ra dl e = ((lift e (part dl)).bind (kSlc2 call a hi ra)) := rfl
def kSlc0 (call : CallF) (a lo hi : Ex) : R → Env → Out R := fun ra e => (valOf (ev call lo e)).bind (kSlc1 call a hi ra)
@[simp] theorem kSlc0_app (call : CallF) (a lo hi : Ex) (ra : R) (e : Env) : kSlc0 call a lo hi ra e = ((valOf (ev call lo e)).bind (kSlc1 call a hi ra)) := rfl
def kRev  : R → Env → Out R := fun ra e => lift e (revOf ra)
@[simp] theorem kRev_app  (ra : R) (e : Env) : kRev  ra e = (lift e (revOf ra)) := rfl
def kB1 (f : B1) : R → Env → Out R := fun ra e => lift e (b1Of f ra)
@[simp] theorem kB1_app (f : B1) (ra : R) (e : Env) : kB1 f ra e = (lift e (b1Of f ra)) := rfl
def kB22 (f : B2) (x : D) : D → Env → Out R := fun y e => (lift e (b2 f x y)).bind kSt
@[simp] theorem kB22_app (f : B2) (x : D) (y : D) (e : Env) : kB22 f x y e = ((lift e (b2 f x y)).bind kSt) := rfl
def kB21 (call : CallF) (f : B2) (b : Ex) : D → Env → Out R := fun x e => (valOf (ev call b e)).bind (kB22 f x)
@[simp] theorem kB21_app (call : CallF) (f : B2) (b : Ex) (x : D) (e : Env) : kB21 call f b x e = ((valOf (ev call b e)).bind (kB22 f x)) := rfl
def kCnt3 (xs : List D) : D → Env → Out R := fun d e => lift e (countOf xs d)
@[simp] theorem kCnt3_app (xs : List D) (d : D) (e : Env) : kCnt3 xs d e = (lift e (countOf xs d)) := rfl
def kCnt2 (call : CallF) (x : Ex) : List D → Env → Out R := fun xs e => (valOf (ev call x e)).bind (kCnt3 xs)
@[simp] theorem kCnt2_app (call : CallF) (x : Ex) (xs : List D) (e : Env) : kCnt2 call x xs e = ((valOf (ev call x e)).bind (kCnt3 xs)) := rfl
def kCnt1 (call : CallF) (x : Ex) : R → Env → Out R := fun ra e => (lift e (tup? ra.d)).bind (kCnt2 call x)
@[simp] theorem kCnt1_app (call : CallF) (x : Ex) (ra : R) (e : Env) : kCnt1 call x ra e = ((lift e (tup? ra.d)).bind (kCnt2 call x)) := rfl
def kSet (i : Nat) : Slot → Env → Out R := fun s e => .ok (.st .none) (e.set i s)
@[simp] theorem kSet_app (i : Nat) (s : Slot) (e : Env) : kSet i s e = (.ok (.st .none) (e.set i s)) := rfl
def kApp2 (i : Nat) : D → Env → Out R := fun d e => (lift e (appOf d (slot e i))).bind (kSet i)
@[simp] theorem kApp2_app (i : Nat) (d : D) (e : Env) : kApp2 i d e = ((lift e (appOf d (slot e i))).bind (kSet i)) := rfl
def kApp1 (call : CallF) (i : Nat) (x : Ex) : Unit → Env → Out R := fun _u e => (valOf (ev call x e)).bind (kApp2 i)
@[simp] theorem kApp1_app (call : CallF) (i : Nat) (x : Ex) (_u : Unit) (e : Env) : kApp1 call i x _u e = ((valOf (ev call x e)).bind (kApp2 i)) := rfl
def kExt2 (i : Nat) : D → Env → Out R := fun d e => (lift e (extOf d (slot e i))).bind (kSet i)
@[simp] theorem kExt2_app (i : Nat) (d : D) (e : Env) : kExt2 i d e = ((lift e (extOf d (slot e i))).bind (kSet i)) := rfl
def kExt1 (call : CallF) (i : Nat) (x : Ex) : Unit → Env → Out R := fun _u e => (valOf (ev call x e)).bind (kExt2 i)
@[simp] theorem kExt1_app (call : CallF) (i : Nat) (x : Ex) (_u : Unit) (e : Env) : kExt1 call i x _u e = ((valOf (ev call x e)).bind (kExt2 i)) := rfl
def kPop (i : Nat) : D × Slot → Env → Out R := fun p e => .ok (.st p.1) (e.set i p.2)
@[simp] theorem kPop_app (i : Nat) (p : D × Slot) (e : Env) : kPop i p e = (.ok (.st p.1) (e.set i p.2)) := rfl
def kPopAt2 (i : Nat) : Int → Env → Out R := fun z e => (lift e (popAtOf z (slot e i))).bind (kPop i)
@[simp] theorem kPopAt2_app (i : Nat) (z : Int) (e : Env) : kPopAt2 i z e = ((lift e (popAtOf z (slot e i))).bind (kPop i)) := rfl
def kPopAt1 (call : CallF) (i : Nat) (x : Ex) : Unit → Env → Out R := fun _u e => (intOf (ev call x e)).bind (kPopAt2 i)
@[simp] theorem kPopAt1_app (call : CallF) (i : Nat) (x : Ex) (_u : Unit) (e : Env) : kPopAt1 call i x _u e = ((intOf (ev call x e)).bind (kPopAt2 i)) := rfl
def kAA4 (i : Nat) (p : List (List D) × Nat) (d : D) : List D → Env → Out R := fun ys e => if ys.length < line then .ok (.st .none) (e.set i (.ol2 (p.1.set p.2 (ys ++ [d])))) else .bad
@[simp] theorem kAA4_app (i : Nat) (p : List (List D) × Nat) (d : D) (ys : List D) (e : Env) : kAA4 i p d ys e = (if ys.length < line then .ok (.st .none) (e.set i (.ol2 (p.1.set p.2 (ys ++ [d])))) else .bad) := rfl
def kAA3 (i : Nat) (p : List (List D) × Nat) : D → Env → Out R := fun d e => (lift e p.1[p.2]?).bind (kAA4 i p d)
@[simp] theorem kAA3_app (i : Nat) (p : List (List D) × Nat) (d : D) (e : Env) : kAA3 i p d e = ((lift e p.1[p.2]?).bind (kAA4 i p d)) := rfl
def kAA2 (call : CallF) (i : Nat) (x : Ex) : List (List D) × Nat → Env → Out R := fun p e => (valOf (ev call x (e.set i .u))).bind (kAA3 i p)
@[simp] theorem kAA2_app (call : CallF) (i : Nat) (x : Ex) (p : List (List D) × Nat) (e : Env) : kAA2 call i x p e = ((valOf (ev call x (e.set i .u))).bind (kAA3 i p)) := rfl
def kAA1 (call : CallF) (i : Nat) (x : Ex) : Int → Env → Out R := fun z e => (lift e (atAppOf z (slot e i))).bind (kAA2 call i x)
@[simp] theorem kAA1_app (call : CallF) (i : Nat) (x : Ex) (z : Int) (e : Env) : kAA1 call i x z e = ((lift e (atAppOf z (slot e i))).bind (kAA2 call i x)) := rfl
def kAA0 (call : CallF) (i : Nat) (k x : Ex) : R → Env → Out R := fun _r e => (intOf (ev call k e)).bind (kAA1 call i x)
@[simp] theorem kAA0_app (call : CallF) (i : Nat) (k x : Ex) (_r : R) (e : Env) : kAA0 call i k x _r e = ((intOf (ev call k e)).bind (kAA1 call i x)) := rfl
def kItL  : List D → Env → Out R := fun xs e => if xs.length ≤ line then .ok (.fr xs) e else .bad
@[simp] theorem kItL_app  (xs : List D) (e : Env) : kItL  xs e = (if xs.length ≤ line then .ok (.fr xs) e else .bad) := rfl
def kItT  : List D → Env → Out R := fun xs e => if xs.length ≤ line then .ok (.st (.tuple xs)) e else .bad
@[simp] theorem kItT_app  (xs : List D) (e : Env) : kItT  xs e = (if xs.length ≤ line then .ok (.st (.tuple xs)) e else .bad) := rfl
def kEs2 (d : D) : List D → Env → Out (List D) := fun ds e => .ok (d :: ds) e
@[simp] theorem kEs2_app (d : D) (ds : List D) (e : Env) : kEs2 d ds e = (.ok (d :: ds) e) := rfl
def kEs1 (call : CallF) (r : Exs) : D → Env → Out (List D) := fun d e => (evs call r e).bind (kEs2 d)
@[simp] theorem kEs1_app (call : CallF) (r : Exs) (d : D) (e : Env) : kEs1 call r d e = ((evs call r e).bind (kEs2 d)) := rfl
def kAr2 (a : Arg) : List Arg → Env → Out (List Arg) := fun as e => .ok (a :: as) e
@[simp] theorem kAr2_app (a : Arg) (as : List Arg) (e : Env) : kAr2 a as e = (.ok (a :: as) e) := rfl
def kArN (call : CallF) (a : Arg) (r : Exs) : R → Env → Out (List Arg) := fun _r e => (evArgs call r e).bind (kAr2 a)
@[simp] theorem kArN_app (call : CallF) (a : Arg) (r : Exs) (_r : R) (e : Env) : kArN call a r _r e = ((evArgs call r e).bind (kAr2 a)) := rfl
def kArV (call : CallF) (r : Exs) : D → Env → Out (List Arg) := fun d e => (evArgs call r e).bind (kAr2 (.val d))
@[simp] theorem kArV_app (call : CallF) (r : Exs) (d : D) (e : Env) : kArV call r d e = ((evArgs call r e).bind (kAr2 (.val d))) := rfl
def kRg1  : Int → Env → Out (List D) := fun n e => if smallI n = true then .ok (rangeL 0 (rangeN 0 n) 1) e else .bad
@[simp] theorem kRg1_app  (n : Int) (e : Env) : kRg1  n e = (if smallI n = true then .ok (rangeL 0 (rangeN 0 n) 1) e else .bad) := rfl
def kRg22 (m : Int) : Int → Env → Out (List D) := fun n e => if smallI m = true ∧ smallI n = true then .ok (rangeL m (rangeN m n) 1) e else .bad
@[simp] theorem kRg22_app (m : Int) (n : Int) (e : Env) : kRg22 m n e = (if smallI m = true ∧ smallI n = true then .ok (rangeL m (rangeN m n) 1) e else .bad) := rfl
def kRg21 (call : CallF) (b : Ex) : Int → Env → Out (List D) := fun m e => (intOf (ev call b e)).bind (kRg22 m)
@[simp] theorem kRg21_app (call : CallF) (b : Ex) (m : Int) (e : Env) : kRg21 call b m e = ((intOf (ev call b e)).bind (kRg22 m)) := rfl
def kRg33 (m n : Int) : Int → Env → Out (List D) := fun k e => if k = -1 ∧ smallI m = true ∧ smallI n = true then .ok (rangeL m (rangeN n m) (-1)) e else .bad
@[simp] theorem kRg33_app (m n : Int) (k : Int) (e : Env) : kRg33 m n k e = (if k = -1 ∧ smallI m = true ∧ smallI n = true then .ok (rangeL m (rangeN n m) (-1)) e else .bad) := rfl
def kRg32 (call : CallF) (c : Ex) (m : Int) : Int → Env → Out (List D) := fun n e => (intOf (ev call c e)).bind (kRg33 m n)
@[simp] theorem kRg32_app (call : CallF) (c : Ex) (m : Int) (n : Int) (e : Env) : kRg32 call c m n e = ((intOf (ev call c e)).bind (kRg33 m n)) := rfl
def kRg31 (call : CallF) (b c : Ex) : Int → Env → Out (List D) := fun m e => (intOf (ev call b e)).bind (kRg32 call c m)
@[simp] theorem kRg31_app (call : CallF) (b c : Ex) (m : Int) (e : Env) : kRg31 call b c m e = ((intOf (ev call b e)).bind (kRg32 call c m)) := rfl
def kPairs  : List D → Env → Out (List D) := fun xs e => .ok (pairs 0 xs) e
@[simp] theorem kPairs_app  (xs : List D) (e : Env) : kPairs  xs e = (.ok (pairs 0 xs) e) := rfl
def kWalk  : R → Env → Out (List D) := fun ra e => lift e (walked ra)
@[simp] theorem kWalk_app  (ra : R) (e : Env) : kWalk  ra e = (lift e (walked ra)) := rfl
def kEnum  : R → Env → Out (List D) := fun ra e => (lift e (walked ra)).bind kPairs
@[simp] theorem kEnum_app  (ra : R) (e : Env) : kEnum  ra e = ((lift e (walked ra)).bind kPairs) := rfl
def kZip4 (xs : List D) : List D → Env → Out (List D) := fun ys e => .ok (zips xs ys) e
@[simp] theorem kZip4_app (xs : List D) (ys : List D) (e : Env) : kZip4 xs ys e = (.ok (zips xs ys) e) := rfl
def kZip3 (rb : R) : List D → Env → Out (List D) := fun xs e => (lift e (walked rb)).bind (kZip4 xs)
@[simp] theorem kZip3_app (rb : R) (xs : List D) (e : Env) : kZip3 rb xs e = ((lift e (walked rb)).bind (kZip4 xs)) := rfl
def kZip2 (ra : R) : R → Env → Out (List D) := fun rb e => (lift e (walked ra)).bind (kZip3 rb)
@[simp] theorem kZip2_app (ra : R) (rb : R) (e : Env) : kZip2 ra rb e = ((lift e (walked ra)).bind (kZip3 rb)) := rfl
def kZip1 (call : CallF) (b : Ex) : R → Env → Out (List D) := fun ra e => (ev call b e).bind (kZip2 ra)
@[simp] theorem kZip1_app (call : CallF) (b : Ex) (ra : R) (e : Env) : kZip1 call b ra e = ((ev call b e).bind (kZip2 ra)) := rfl
def kNx  : R → Env → Out Flow := fun _r e => .ok .nx e
@[simp] theorem kNx_app  (_r : R) (e : Env) : kNx  _r e = (.ok .nx e) := rfl
def kSetF (i : Nat) : Slot → Env → Out Flow := fun s e => .ok .nx (e.set i s)
@[simp] theorem kSetF_app (i : Nat) (s : Slot) (e : Env) : kSetF i s e = (.ok .nx (e.set i s)) := rfl
def kAsg (i : Nat) : R → Env → Out Flow := fun r e => (lift e r.keep).bind (kSetF i)
@[simp] theorem kAsg_app (i : Nat) (r : R) (e : Env) : kAsg i r e = ((lift e r.keep).bind (kSetF i)) := rfl
def kAsgO (i : Nat) : R → Env → Out Flow := fun r e => (lift e r.slot).bind (kSetF i)
@[simp] theorem kAsgO_app (i : Nat) (r : R) (e : Env) : kAsgO i r e = ((lift e r.slot).bind (kSetF i)) := rfl
def kMove (i j : Nat) : Slot × Slot → Env → Out Flow := fun p e => .ok .nx ((e.set j p.1).set i p.2)
@[simp] theorem kMove_app (i j : Nat) (p : Slot × Slot) (e : Env) : kMove i j p e = (.ok .nx ((e.set j p.1).set i p.2)) := rfl
def kEnv  : Env → Env → Out Flow := fun e2 _e => .ok .nx e2
@[simp] theorem kEnv_app  (e2 : Env) (_e : Env) : kEnv  e2 _e = (.ok .nx e2) := rfl
def kAsT2 (is : List Nat) : List D → Env → Out Flow := fun ds e => (lift e (setAll e is ds)).bind kEnv
@[simp] theorem kAsT2_app (is : List Nat) (ds : List D) (e : Env) : kAsT2 is ds e = ((lift e (setAll e is ds)).bind kEnv) := rfl
def kAsT1 (is : List Nat) : D → Env → Out Flow := fun d e => (lift e (tup? d)).bind (kAsT2 is)
@[simp] theorem kAsT1_app (is : List Nat) (d : D) (e : Env) : kAsT1 is d e = ((lift e (tup? d)).bind (kAsT2 is)) := rfl
def kAsI3 (i : Nat) (d : D) : Int → Env → Out Flow := fun z e => (lift e (setOf z d (slot e i))).bind (kSetF i)
@[simp] theorem kAsI3_app (i : Nat) (d : D) (z : Int) (e : Env) : kAsI3 i d z e = ((lift e (setOf z d (slot e i))).bind (kSetF i)) := rfl
def kAsI2 (call : CallF) (i : Nat) (k : Ex) (d : D) : R → Env → Out Flow := fun _r e => (intOf (ev call k e)).bind (kAsI3 i d)
@[simp] theorem kAsI2_app (call : CallF) (i : Nat) (k : Ex) (d : D) (_r : R) (e : Env) : kAsI2 call i k d _r e = ((intOf (ev call k e)).bind (kAsI3 i d)) := rfl
def kAsI1 (call : CallF) (i : Nat) (k : Ex) : D → Env → Out Flow := fun d e => (lift e (slot e i).look).bind (kAsI2 call i k d)
@[simp] theorem kAsI1_app (call : CallF) (i : Nat) (k : Ex) (d : D) (e : Env) : kAsI1 call i k d e = ((lift e (slot e i).look).bind (kAsI2 call i k d)) := rfl
def kAug4 (i : Nat) : Int → Env → Out Flow := fun k e => .ok .nx (e.set i (.v (.int k)))
@[simp] theorem kAug4_app (i : Nat) (k : Int) (e : Env) : kAug4 i k e = (.ok .nx (e.set i (.v (.int k)))) := rfl
def kAug3 (i : Nat) : R → Env → Out Flow := fun r e => (lift e (stInt r)).bind (kAug4 i)
@[simp] theorem kAug3_app (i : Nat) (r : R) (e : Env) : kAug3 i r e = ((lift e (stInt r)).bind (kAug4 i)) := rfl
def kAug2 (i : Nat) (o : BOp) (m : Int) : Int → Env → Out Flow := fun n e => (lift e (bin o (.int m) (.int n))).bind (kAug3 i)
@[simp] theorem kAug2_app (i : Nat) (o : BOp) (m : Int) (n : Int) (e : Env) : kAug2 i o m n e = ((lift e (bin o (.int m) (.int n))).bind (kAug3 i)) := rfl
def kAug1 (call : CallF) (i : Nat) (o : BOp) (x : Ex) : Int → Env → Out Flow := fun m e => (intOf (ev call x e)).bind (kAug2 i o m)
@[simp] theorem kAug1_app (call : CallF) (i : Nat) (o : BOp) (x : Ex) (m : Int) (e : Env) : kAug1 call i o x m e = ((intOf (ev call x e)).bind (kAug2 i o m)) := rfl
def kAgI5 (i : Nat) (z : Int) : Int → Env → Out Flow := fun v e => (lift e (setOf z (.int v) (slot e i))).bind (kSetF i)
@[simp] theorem kAgI5_app (i : Nat) (z : Int) (v : Int) (e : Env) : kAgI5 i z v e = ((lift e (setOf z (.int v) (slot e i))).bind (kSetF i)) := rfl
def kAgI4 (i : Nat) (z : Int) : R → Env → Out Flow := fun r e => (lift e (stInt r)).bind (kAgI5 i z)
@[simp] theorem kAgI4_app (i : Nat) (z : Int) (r : R) (e : Env) : kAgI4 i z r e = ((lift e (stInt r)).bind (kAgI5 i z)) := rfl
def kAgI3 (i : Nat) (o : BOp) (z m : Int) : Int → Env → Out Flow := fun n e => (lift e (bin o (.int m) (.int n))).bind (kAgI4 i z)
@[simp] theorem kAgI3_app (i : Nat) (o : BOp) (z m : Int) (n : Int) (e : Env) : kAgI3 i o z m n e = ((lift e (bin o (.int m) (.int n))).bind (kAgI4 i z)) := rfl
def kAgI2 (call : CallF) (i : Nat) (o : BOp) (x : Ex) (z : Int) : Int → Env → Out Flow := fun m e => (intOf (ev call x e)).bind (kAgI3 i o z m)
@[simp] theorem kAgI2_app (call : CallF) (i : Nat) (o : BOp) (x : Ex) (z : Int) (m : Int) (e : Env) : kAgI2 call i o x z m e = ((intOf (ev call x e)).bind (kAgI3 i o z m)) := rfl
def kAgI1 (call : CallF) (i : Nat) (o : BOp) (x : Ex) : Int → Env → Out Flow := fun z e => (lift e (intAt z (slot e i))).bind (kAgI2 call i o x z)
@[simp] theorem kAgI1_app (call : CallF) (i : Nat) (o : BOp) (x : Ex) (z : Int) (e : Env) : kAgI1 call i o x z e = ((lift e (intAt z (slot e i))).bind (kAgI2 call i o x z)) := rfl
def kAgI0 (call : CallF) (i : Nat) (k : Ex) (o : BOp) (x : Ex) : R → Env → Out Flow := fun _r e => (intOf (ev call k e)).bind (kAgI1 call i o x)
@[simp] theorem kAgI0_app (call : CallF) (i : Nat) (k : Ex) (o : BOp) (x : Ex) (_r : R) (e : Env) : kAgI0 call i k o x _r e = ((intOf (ev call k e)).bind (kAgI1 call i o x)) := rfl
def kIte (call : CallF) (io : List Nat) (a b : Sts) : Bool → Env → Out Flow := fun k e => match k with | true => execs call io a e | false => execs call io b e
@[simp] theorem kIte_t (call : CallF) (io : List Nat) (a b : Sts) (e : Env) : kIte call io a b true e = (execs call io a e) := rfl
@[simp] theorem kIte_f (call : CallF) (io : List Nat) (a b : Sts) (e : Env) : kIte call io a b false e = (execs call io b e) := rfl
def kRt  : R → Env → Out Flow := fun r e => .ok (.rt r) e
@[simp] theorem kRt_app  (r : R) (e : Env) : kRt  r e = (.ok (.rt r) e) := rfl
def kRetE  : R → Env → Out Flow := fun r e => (lift e r.ret).bind kRt
@[simp] theorem kRetE_app  (r : R) (e : Env) : kRetE  r e = ((lift e r.ret).bind kRt) := rfl
def kRetP (j : Nat) : R × Slot → Env → Out Flow := fun p e => .ok (.rt p.1) (e.set j p.2)
@[simp] theorem kRetP_app (j : Nat) (p : R × Slot) (e : Env) : kRetP j p e = (.ok (.rt p.1) (e.set j p.2)) := rfl
def kFor (call : CallF) (io : List Nat) (t : Tg) (b : Sts) : List D → Env → Out Flow := fun xs e => forLoop t.bind (execs call io b) xs e
@[simp] theorem kFor_app (call : CallF) (io : List Nat) (t : Tg) (b : Sts) (xs : List D) (e : Env) : kFor call io t b xs e = (forLoop t.bind (execs call io b) xs e) := rfl
def kRaise (c : String) (i : XCls) : List D → Env → Out Flow := fun ds e => if i.kind.ok ds = true ∧ i.flds.length = ds.length then .exc ⟨c, ds⟩ e else .bad
@[simp] theorem kRaise_app (c : String) (i : XCls) (ds : List D) (e : Env) : kRaise c i ds e = (if i.kind.ok ds = true ∧ i.flds.length = ds.length then .exc ⟨c, ds⟩ e else .bad) := rfl
def cWhile (call : CallF) (c : Ex) : Env → Out Bool := fun e => truthOf (ev call c e)
@[simp] theorem cWhile_app (call : CallF) (c : Ex) (e : Env) : cWhile call c e = truthOf (ev call c e) := rfl
def kSs (call : CallF) (io : List Nat) (ss : Sts) : Flow → Env → Out Flow := fun f e1 => match f with
  | .nx => execs call io ss e1
  | .rt r => .ok (.rt r) e1
@[simp] theorem kSs_nx (call : CallF) (io : List Nat) (ss : Sts) (e : Env) : kSs call io ss .nx e = execs call io ss e := rfl
@[simp] theorem kSs_rt (call : CallF) (io : List Nat) (ss : Sts) (r : R) (e : Env) : kSs call io ss (.rt r) e = .ok (.rt r) e := rfl
@[simp] theorem valOf_eq (o : Out R) : valOf o = o.bind kVal := rfl
@[simp] theorem truthOf_eq (o : Out R) : truthOf o = o.bind kTru := rfl
@[simp] theorem intOf_eq (o : Out R) : intOf o = (o.bind kVal).bind kInt := rfl
section
variable (call : CallF) (e : Env) (io : List Nat)
@[simp] theorem e_lit (d : D) : ev call (.lit d) e = .ok (.st d) e := rfl
@[simp] theorem e_glo (x : String) : ev call (.glo x) e = (lift e (call.con x)).bind kSt := rfl
@[simp] theorem e_var (i : Nat) : ev call (.var i) e = (lift e (slot e i).freeze).bind (kVar i) := rfl
@[simp] theorem e_pk (i : Nat) : ev call (.pk i) e = lift e (slot e i).look := rfl
@[simp] theorem e_tup (es : Exs) : ev call (.tup es) e = (evs call es e).bind kTup := rfl
@[simp] theorem e_lst (es : Exs) : ev call (.lst es) e = (evs call es e).bind kLst := rfl
@[simp] theorem e_bin (o : BOp) (a b : Ex) : ev call (.bin o a b) e = (valOf (ev call a e)).bind (kBin1 call o b) := rfl
@[simp] theorem e_neg (a : Ex) : ev call (.neg a) e = (intOf (ev call a e)).bind kNeg := rfl
@[simp] theorem e_inv (a : Ex) : ev call (.inv a) e = (intOf (ev call a e)).bind kInv := rfl
@[simp] theorem e_not (a : Ex) : ev call (.not a) e = (truthOf (ev call a e)).bind kNot := rfl
@[simp] theorem e_cmp (o : COp) (a b : Ex) : ev call (.cmp o a b) e = (ev call a e).bind (kCmp1 call o a b) := rfl
@[simp] theorem e_idx (a i : Ex) : ev call (.idx a i) e = (ev call a e).bind (kIdx1 call a i) := rfl
@[simp] theorem e_slc (a lo hi : Ex) : ev call (.slc a lo hi) e = (ev call a e).bind (kSlc0 call a lo hi) := rfl
@[simp] theorem e_rev (a : Ex) : ev call (.rev a) e = (ev call a e).bind kRev := rfl
@[simp] theorem e_b1 (f : B1) (a : Ex) : ev call (.b1 f a) e = (ev call a e).bind (kB1 f) := rfl
@[simp] theorem e_b2 (f : B2) (a b : Ex) : ev call (.b2 f a b) e = (valOf (ev call a e)).bind (kB21 call f b) := rfl
@[simp] theorem e_count (a x : Ex) : ev call (.count a x) e = (ev call a e).bind (kCnt1 call x) := rfl
@[simp] theorem e_app (i : Nat) (x : Ex) : ev call (.app i x) e = (lift e (isOl (slot e i))).bind (kApp1 call i x) := rfl
@[simp] theorem e_appNew (i : Nat) : ev call (.appNew i) e = (lift e (appNewOf (slot e i))).bind (kSet i) := rfl
@[simp] theorem e_appAt (i : Nat) (k x : Ex) : ev call (.appAt i k x) e = (lift e (slot e i).look).bind (kAA0 call i k x) := rfl
@[simp] theorem e_ext (i : Nat) (x : Ex) : ev call (.ext i x) e = (lift e (isOl (slot e i))).bind (kExt1 call i x) := rfl
@[simp] theorem e_pop (i : Nat) : ev call (.pop i) e = (lift e (popOf (slot e i))).bind (kPop i) := rfl
@[simp] theorem e_popAt (i : Nat) (k : Ex) : ev call (.popAt i k) e = (lift e (isOl (slot e i))).bind (kPopAt1 call i k) := rfl
@[simp] theorem e_itL (it : It) : ev call (.itL it) e = (evI call it e).bind kItL := rfl
@[simp] theorem e_itT (it : It) : ev call (.itT it) e = (evI call it e).bind kItT := rfl
theorem bind_congr' {α β : Type} {o : Out β} {f g : β → Env → Out α} (h : ∀ b e, f b e = g b e) : o.bind f = o.bind g := by
  rw [show f = g from funext fun b => funext fun e => h b e]
@[simp] theorem e_and (a b : Ex) : ev call (.and a b) e = (valOf (ev call a e)).bind (kAnd1 call b) := by
  refine bind_congr' fun x e1 => bind_congr' fun k e1 => ?_
  cases k <;> rfl
@[simp] theorem e_or (a b : Ex) : ev call (.or a b) e = (valOf (ev call a e)).bind (kOr1 call b) := by
  refine bind_congr' fun x e1 => bind_congr' fun k e1 => ?_
  cases k <;> rfl
@[simp] theorem e_chain (o p : COp) (a b c : Ex) : ev call (.chain o p a b c) e = (valOf (ev call a e)).bind (kCh1 call o p b c) := by
  refine bind_congr' fun x e1 => bind_congr' fun y e1 => bind_congr' fun k e1 => ?_
  cases k <;> rfl
@[simp] theorem e_ife (c a b : Ex) : ev call (.ife c a b) e = (truthOf (ev call c e)).bind (kIfe call a b) := by
  refine bind_congr' fun k e1 => ?_
  cases k <;> rfl
@[simp] theorem es_nil : evs call .nil e = .ok [] e := rfl
@[simp] theorem es_cons (a : Ex) (r : Exs) : evs call (.cons a r) e = (valOf (ev call a e)).bind (kEs1 call r) := rfl
@[simp] theorem ea_nil : evArgs call .nil e = .ok [] e := rfl
@[simp] theorem ea_io (i : Nat) (r : Exs) : evArgs call (.cons (.io i) r) e = (lift e (slot e i).look).bind (kArN call (.io i) r) := rfl
@[simp] theorem ea_pk (i : Nat) (r : Exs) : evArgs call (.cons (.pk i) r) e = (lift e (slot e i).look).bind (kArN call (.lent i) r) := rfl
@[simp] theorem ea_val (a : Ex) (r : Exs) (h1 : ∀ i, a ≠ .io i) (h2 : ∀ i, a ≠ .pk i) : evArgs call (.cons a r) e = (valOf (ev call a e)).bind (kArV call r) := by
  cases a <;> first | rfl | exact absurd rfl (h1 _) | exact absurd rfl (h2 _)
@[simp] theorem ei_range (a : Ex) : evI call (.range a) e = (intOf (ev call a e)).bind kRg1 := rfl
@[simp] theorem ei_range2 (a b : Ex) : evI call (.range2 a b) e = (intOf (ev call a e)).bind (kRg21 call b) := rfl
@[simp] theorem ei_range3 (a b c : Ex) : evI call (.range3 a b c) e = (intOf (ev call a e)).bind (kRg31 call b c) := rfl
@[simp] theorem ei_enum (a : Ex) : evI call (.enum a) e = (ev call a e).bind kEnum := rfl
@[simp] theorem ei_zip (a b : Ex) : evI call (.zip a b) e = (ev call a e).bind (kZip1 call b) := rfl
@[simp] theorem ei_ex (it : Ex) : evI call (.ex it) e = (ev call it e).bind kWalk := rfl
@[simp] theorem s_expr (x : Ex) : exec call io (.expr x) e = (ev call x e).bind kNx := rfl
theorem s_raise (c : String) (es : Exs) (i : XCls) (h : call.cls c = some i) (hk : i.kind ≠ .base) : exec call io (.raise c es) e = (evs call es e).bind (kRaise c i) := by
  unfold exec
  rw [h]
  dsimp only
  rw [if_neg hk]
  rfl
@[simp] theorem s_asg (i : Nat) (x : Ex) : exec call io (.asg i x) e = if io.contains i = true then .bad else (ev call x e).bind (kAsg i) := rfl
@[simp] theorem s_asgO_pk (i j : Nat) : exec call io (.asgO i (.pk j)) e = if io.contains i = true then .bad else if io.contains j = true then .bad else (lift e (moveOf (slot e j))).bind (kMove i j) := rfl
@[simp] theorem s_asgO (i : Nat) (x : Ex) (h : ∀ j, x ≠ .pk j) : exec call io (.asgO i x) e = if io.contains i = true then .bad else (ev call x e).bind (kAsgO i) := by
  cases x <;> first | rfl | exact absurd rfl (h _)
@[simp] theorem s_asgT (is : List Nat) (x : Ex) : exec call io (.asgT is x) e = if is.any io.contains = true then .bad else (valOf (ev call x e)).bind (kAsT1 is) := rfl
@[simp] theorem s_asgI (i : Nat) (k x : Ex) : exec call io (.asgI i k x) e = (valOf (ev call x e)).bind (kAsI1 call i k) := rfl
@[simp] theorem s_aug (i : Nat) (o : BOp) (x : Ex) : exec call io (.aug i o x) e = if io.contains i = true then .bad else (lift e (intIn (slot e i))).bind (kAug1 call i o x) := rfl
@[simp] theorem s_augI (i : Nat) (k : Ex) (o : BOp) (x : Ex) : exec call io (.augI i k o x) e = (lift e (slot e i).look).bind (kAgI0 call i k o x) := rfl
@[simp] theorem s_ite (c : Ex) (a b : Sts) : exec call io (.ite c a b) e = (truthOf (ev call c e)).bind (kIte call io a b) := by
  refine bind_congr' fun k e1 => ?_
  cases k <;> rfl
@[simp] theorem s_while (c : Ex) (b : Sts) : exec call io (.while c b) e = whileLoop (cWhile call c) (execs call io b) turns e := rfl
@[simp] theorem s_for (t : Tg) (it : It) (b : Sts) : exec call io (.for t it b) e = if t.vars.any io.contains = true then .bad else (evI call it e).bind (kFor call io t b) := rfl
@[simp] theorem s_ret_pk (j : Nat) : exec call io (.ret (.pk j)) e = if io.contains j = true then .bad else (lift e (retOf (slot e j))).bind (kRetP j) := rfl
@[simp] theorem s_ret (x : Ex) (h : ∀ j, x ≠ .pk j) : exec call io (.ret x) e = (ev call x e).bind kRetE := by
  cases x <;> first | rfl | exact absurd rfl (h _)
@[simp] theorem s_retN : exec call io .retN e = .ok (.rt (.st .none)) e := rfl
@[simp] theorem s_pass : exec call io .pass e = .ok .nx e := rfl
@[simp] theorem ss_nil : execs call io .nil e = .ok .nx e := rfl
@[simp] theorem ss_cons (s : St) (ss : Sts) : execs call io (.cons s ss) e = (exec call io s e).bind (kSs call io ss) := rfl
end
/-! ### comprehensions -/
def kTn2 (call : CallF) (x : Ex) : Bool → Env → Out (Option D) := fun k e => match k with
  | true => (valOf (ev call x e)).bind fun d e4 => .ok (some d) e4
  | false => .ok none e
def kSomeD : D → Env → Out (Option D) := fun d e => .ok (some d) e
@[simp] theorem kSomeD_app (d : D) (e : Env) : kSomeD d e = .ok (some d) e := rfl
@[simp] theorem kTn2_t (call : CallF) (x : Ex) (e : Env) : kTn2 call x true e = (valOf (ev call x e)).bind kSomeD := rfl
@[simp] theorem kTn2_f (call : CallF) (x : Ex) (e : Env) : kTn2 call x false e = .ok none e := rfl
def kTn1 (call : CallF) (c x : Ex) : Env → Env → Out (Option D) := fun e2 _ => (truthOf (ev call c e2)).bind (kTn2 call x)
@[simp] theorem kTn1_app (call : CallF) (c x : Ex) (e2 e : Env) : kTn1 call c x e2 e = (truthOf (ev call c e2)).bind (kTn2 call x) := rfl
def turnM (call : CallF) (t : Tg) (c x : Ex) : D → Env → Out (Option D) := fun y ey => (lift ey (t.bind y (wipe ey t.vars))).bind (kTn1 call c x)
@[simp] theorem turnM_app (call : CallF) (t : Tg) (c x : Ex) (y : D) (ey : Env) : turnM call t c x y ey = (lift ey (t.bind y (wipe ey t.vars))).bind (kTn1 call c x) := rfl
theorem turnM_eq (call : CallF) (t : Tg) (c x : Ex) : (fun (y : D) (ey : Env) => (lift ey (t.bind y (wipe ey t.vars))).bind fun e2 _ => (truthOf (ev call c e2)).bind fun k e3 => if k = true then (valOf (ev call x e3)).bind fun d e4 => .ok (some d) e4 else .ok none e3) = turnM call t c x := by
  funext y ey
  refine bind_congr' fun e2 _ => bind_congr' fun k e3 => ?_
  cases k <;> rfl
def kComp (e1 : Env) (t : Tg) (P : R → Env → Prop) : List D → Env → Prop := fun acc e2 => P (.fr acc) (restore e1 e2 t.vars)
@[simp] theorem kComp_app (e1 : Env) (t : Tg) (P : R → Env → Prop) (acc : List D) (e2 : Env) : kComp e1 t P acc e2 = P (.fr acc) (restore e1 e2 t.vars) := rfl
def kCompL (e1 : Env) (t : Tg) (i : Nat) (xs : List D) (P : R → Env → Prop) : List D → Env → Prop := fun acc e2 => P (.fr acc) ((restore e1 e2 t.vars).set i (.ol xs))
@[simp] theorem kCompL_app (e1 : Env) (t : Tg) (i : Nat) (xs : List D) (P : R → Env → Prop) (acc : List D) (e2 : Env) : kCompL e1 t i xs P acc e2 = P (.fr acc) ((restore e1 e2 t.vars).set i (.ol xs)) := rfl
def kCm (call : CallF) (t : Tg) (c x : Ex) (P : R → Env → Prop) : List D → Env → Prop := fun xs e1 => Wp (compLoop (turnM call t c x) xs [] e1) (kComp e1 t P) fun _ _ => False
@[simp] theorem kCm_app (call : CallF) (t : Tg) (c x : Ex) (P : R → Env → Prop) (xs : List D) (e1 : Env) : kCm call t c x P xs e1 = Wp (compLoop (turnM call t c x) xs [] e1) (kComp e1 t P) fun _ _ => False := rfl
/-- over what is no own list -/
theorem wp_ecomp {call : CallF} {e : Env} {t : Tg} {it : It} {c x : Ex} {P : R → Env → Prop} {E : Exn → Env → Prop} (h : lentAt it e = none) (hp : Wp (evI call it e) (kCm call t c x P) E) : Wp (ev call (.comp t it c x) e) P E := by
  have h1 : ev call (.comp t it c x) e = (evI call it e).bind fun xs e1 => (match compLoop (turnM call t c x) xs [] e1 with
        | .ok acc e2 => .ok (.fr acc) (restore e1 e2 t.vars)
        | .exc _ _ => .bad
        | .bad => .bad) := by
    show (match lentAt it e with | some (i, xs) => _ | none => _) = _
    rw [h]
    rw [← turnM_eq]
    all_goals rfl
  rw [h1, Wp_bind]
  refine hp.mono (fun xs e1 q => ?_) fun _ _ q => q
  show Wp (match compLoop (turnM call t c x) xs [] e1 with | .ok acc e2 => _ | .exc _ _ => _ | .bad => _) P E
  rw [kCm_app] at q
  cases hq : compLoop (turnM call t c x) xs [] e1 with
  | ok acc e2 => rw [hq] at q; exact q
  | exc _ _ => rw [hq] at q; exact q.elim
  | bad => rw [hq] at q; exact q.elim
/-- over an own list -/
theorem wp_ecompL {call : CallF} {e : Env} {t : Tg} {it : It} {c x : Ex} {i : Nat} {xs : List D} {P : R → Env → Prop} {E : Exn → Env → Prop} (h : lentAt it e = some (i, xs))
    (hp : Wp (compLoop (turnM call t c x) xs [] (e.set i .u)) (kCompL (e.set i .u) t i xs P) fun _ _ => False) : Wp (ev call (.comp t it c x) e) P E := by
  have h1 : ev call (.comp t it c x) e = (match compLoop (turnM call t c x) xs [] (e.set i .u) with
        | .ok acc e2 => .ok (.fr acc) ((restore (e.set i .u) e2 t.vars).set i (.ol xs))
        | .exc _ _ => .bad
        | .bad => .bad) := by
    show (match lentAt it e with | some (i, xs) => _ | none => _) = _
    rw [h]
    rw [← turnM_eq]
    all_goals rfl
  rw [h1]
  cases hq : compLoop (turnM call t c x) xs [] (e.set i .u) with
  | ok acc e2 => rw [hq] at hp; exact hp
  | exc _ _ => rw [hq] at hp; exact hp.elim
  | bad => rw [hq] at hp; exact hp.elim
/-! ### try -/
def kExc (io : List Nat) (cls : String → Option XCls) (h : Hds) (P : Flow → Env → Prop) (E : Exn → Env → Prop) : Exn → Env → Prop := fun x e => Wp (handle io cls x e h) P E
@[simp] theorem kExc_app (io : List Nat) (cls : String → Option XCls) (h : Hds) (P : Flow → Env → Prop) (E : Exn → Env → Prop) (x : Exn) (e : Env) : kExc io cls h P E x e = Wp (handle io cls x e h) P E := rfl
theorem wp_try {call : CallF} {io : List Nat} {b : Sts} {h : Hds} {e : Env} {P : Flow → Env → Prop} {E : Exn → Env → Prop} (hk : h.known call.cls = true) (hp : Wp (execs call io b e) P (kExc io call.cls h P E)) : Wp (exec call io (.try b h) e) P E := by
  show Wp (if h.known call.cls = true then (match execs call io b e with | .ok fl e1 => .ok fl e1 | .exc x e1 => handle io call.cls x e1 h | .bad => .bad) else .bad) P E
  rw [if_pos hk]
  cases hq : execs call io b e with
  | ok fl e1 => rw [hq] at hp; exact hp
  | exc x e1 => rw [hq] at hp; exact hp
  | bad => rw [hq] at hp; exact hp
@[simp] theorem look_u : Slot.look .u = none := rfl
@[simp] theorem look_v (d : D) : Slot.look (.v d) = some (.st d) := rfl
@[simp] theorem look_b (d : D) : Slot.look (.b d) = some (.bor d) := rfl
@[simp] theorem look_ol (xs : List D) : Slot.look (.ol xs) = some (.own xs) := rfl
@[simp] theorem look_ol2 (xs : List (List D)) : Slot.look (.ol2 xs) = some (.own2 xs) := rfl
@[simp] theorem frz_v (d : D) : Slot.freeze (.v d) = some (d, .v d) := rfl
@[simp] theorem frz_b (d : D) : Slot.freeze (.b d) = if immut d then some (d, .b d) else none := rfl
@[simp] theorem frz_ol (xs : List D) : Slot.freeze (.ol xs) = some (.list xs, .v (.list xs)) := rfl
@[simp] theorem val_st (d : D) : R.val (.st d) = some d := rfl
@[simp] theorem val_fr (xs : List D) : R.val (.fr xs) = some (.list xs) := rfl
@[simp] theorem val_bor (d : D) : R.val (.bor d) = if immut d then some d else none := rfl
@[simp] theorem d_st (d : D) : R.d (.st d) = d := rfl
@[simp] theorem d_fr (xs : List D) : R.d (.fr xs) = .list xs := rfl
@[simp] theorem d_own (xs : List D) : R.d (.own xs) = .list xs := rfl
@[simp] theorem d_bor (d : D) : R.d (.bor d) = d := rfl
@[simp] theorem keep_st (d : D) : R.keep (.st d) = some (.v d) := rfl
@[simp] theorem keep_fr (xs : List D) : R.keep (.fr xs) = some (.v (.list xs)) := rfl
@[simp] theorem keep_bor (d : D) : R.keep (.bor d) = if immut d then some (.v d) else some (.b d) := rfl
@[simp] theorem rslot_st (d : D) : R.slot (.st d) = some (.v d) := rfl
@[simp] theorem rslot_fr (xs : List D) : R.slot (.fr xs) = some (.ol xs) := rfl
@[simp] theorem rslot_bor (d : D) : R.slot (.bor d) = if immut d then some (.v d) else some (.b d) := rfl
@[simp] theorem free_st (d : D) : R.free (.st d) = true := rfl
@[simp] theorem free_fr (xs : List D) : R.free (.fr xs) = true := rfl
@[simp] theorem ret_st (d : D) : R.ret (.st d) = some (.st d) := rfl
@[simp] theorem ret_fr (xs : List D) : R.ret (.fr xs) = some (.fr xs) := rfl
@[simp] theorem ret_bor (d : D) : R.ret (.bor d) = if immut d then some (.st d) else none := rfl
@[simp] theorem item_st (d x : D) : R.item (.st d) x = .st x := rfl
@[simp] theorem item_fr (xs : List D) (x : D) : R.item (.fr xs) x = .st x := rfl
@[simp] theorem item_own (xs : List D) (x : D) : R.item (.own xs) x = .st x := rfl
@[simp] theorem item_bor (d x : D) : R.item (.bor d) x = .bor x := rfl
@[simp] theorem iok_st (d x : D) : R.itemOk (.st d) x = true := rfl
@[simp] theorem iok_fr (xs : List D) (x : D) : R.itemOk (.fr xs) x = true := rfl
@[simp] theorem iok_own (xs : List D) (x : D) : R.itemOk (.own xs) x = true := rfl
@[simp] theorem iok_bor (d x : D) : R.itemOk (.bor d) x = immut x := rfl
@[simp] theorem walks_st (d : D) : R.walks (.st d) = true := rfl
@[simp] theorem walks_fr (xs : List D) : R.walks (.fr xs) = true := rfl
@[simp] theorem walks_bor (d : D) : R.walks (.bor d) = true := rfl
@[simp] theorem retOf_ol (xs : List D) : retOf (.ol xs) = some (.fr xs, .u) := rfl
@[simp] theorem retOf_v (d : D) : retOf (.v d) = some (.st d, .v d) := rfl
@[simp] theorem retOf_b (d : D) : retOf (.b d) = if immut d then some (.st d, .b d) else none := rfl
@[simp] theorem moveOf_ol (xs : List D) : moveOf (.ol xs) = some (.u, .ol xs) := rfl
@[simp] theorem moveOf_v (d : D) : moveOf (.v d) = some (.v d, .v d) := rfl
@[simp] theorem later_pk (j : Nat) (r : R) (e : Env) : later (.pk j) r e = (slot e j).look := rfl
theorem later_st (a : Ex) (d : D) (e : Env) (h : ∀ j, a ≠ .pk j) : later a (.st d) e = some (.st d) := by
  cases a <;> first | rfl | exact absurd rfl (h _)
theorem later_fr (a : Ex) (xs : List D) (e : Env) (h : ∀ j, a ≠ .pk j) : later a (.fr xs) e = some (.fr xs) := by
  cases a <;> first | rfl | exact absurd rfl (h _)
theorem later_bor (a : Ex) (d : D) (e : Env) (h : ∀ j, a ≠ .pk j) : later a (.bor d) e = some (.bor d) := by
  cases a <;> first | rfl | exact absurd rfl (h _)
@[simp] theorem later_own (a b : Ex) (r : R) (e : Env) : later (.idx a b) r e = (match r with | .own _ => none | .own2 _ => none | r => some r) := rfl
@[simp] theorem later_lit (d : D) (r : R) (e : Env) : later (.lit d) r e = (match r with | .own _ => none | .own2 _ => none | r => some r) := rfl
@[simp] theorem later_var (i : Nat) (r : R) (e : Env) : later (.var i) r e = (match r with | .own _ => none | .own2 _ => none | r => some r) := rfl
@[simp] theorem later_b1 (f : B1) (a : Ex) (r : R) (e : Env) : later (.b1 f a) r e = (match r with | .own _ => none | .own2 _ => none | r => some r) := rfl
@[simp] theorem later_bin (o : BOp) (a b : Ex) (r : R) (e : Env) : later (.bin o a b) r e = (match r with | .own _ => none | .own2 _ => none | r => some r) := rfl
@[simp] theorem later_call (f : String) (es : Exs) (r : R) (e : Env) : later (.call f es) r e = (match r with | .own _ => none | .own2 _ => none | r => some r) := rfl
@[simp] theorem later_tup (es : Exs) (r : R) (e : Env) : later (.tup es) r e = (match r with | .own _ => none | .own2 _ => none | r => some r) := rfl
@[simp] theorem later_lst (es : Exs) (r : R) (e : Env) : later (.lst es) r e = (match r with | .own _ => none | .own2 _ => none | r => some r) := rfl
@[simp] theorem later_ife (a b c : Ex) (r : R) (e : Env) : later (.ife a b c) r e = (match r with | .own _ => none | .own2 _ => none | r => some r) := rfl
@[simp] theorem later_slc (a b c : Ex) (r : R) (e : Env) : later (.slc a b c) r e = (match r with | .own _ => none | .own2 _ => none | r => some r) := rfl
@[simp] theorem later_rev (a : Ex) (r : R) (e : Env) : later (.rev a) r e = (match r with | .own _ => none | .own2 _ => none | r => some r) := rfl
@[simp] theorem later_comp (t : Tg) (it : It) (a b : Ex) (r : R) (e : Env) : later (.comp t it a b) r e = (match r with | .own _ => none | .own2 _ => none | r => some r) := rfl
@[simp] theorem later_not (a : Ex) (r : R) (e : Env) : later (.not a) r e = (match r with | .own _ => none | .own2 _ => none | r => some r) := rfl
@[simp] theorem later_cmp (o : COp) (a b : Ex) (r : R) (e : Env) : later (.cmp o a b) r e = (match r with | .own _ => none | .own2 _ => none | r => some r) := rfl
@[simp] theorem later_neg (a : Ex) (r : R) (e : Env) : later (.neg a) r e = (match r with | .own _ => none | .own2 _ => none | r => some r) := rfl
@[simp] theorem later_b2 (f : B2) (a b : Ex) (r : R) (e : Env) : later (.b2 f a b) r e = (match r with | .own _ => none | .own2 _ => none | r => some r) := rfl
@[simp] theorem later_count (a b : Ex) (r : R) (e : Env) : later (.count a b) r e = (match r with | .own _ => none | .own2 _ => none | r => some r) := rfl
@[simp] theorem aslot_val (d : D) (e : Env) : Arg.slot e (.val d) = some (.v d) := rfl
@[simp] theorem aslot_lent (i : Nat) (e : Env) : Arg.slot e (.lent i) = (slot e i).lend := rfl
@[simp] theorem aslot_io (i : Nat) (e : Env) : Arg.slot e (.io i) = (match slot e i with | .ol xs => some (.ol xs) | .ol2 xss => some (.ol2 xss) | _ => none) := rfl
@[simp] theorem lend_v (d : D) : Slot.lend (.v d) = some (.v d) := rfl
@[simp] theorem lend_b (d : D) : Slot.lend (.b d) = some (.b d) := rfl
@[simp] theorem lend_ol (xs : List D) : Slot.lend (.ol xs) = some (.b (.list xs)) := rfl
@[simp] theorem as_nil (e : Env) : argSlots e [] = some [] := rfl
@[simp] theorem as_cons (e : Env) (a : Arg) (r : List Arg) : argSlots e (a :: r) = (a.slot e).bind fun s => (argSlots e r).map (s :: ·) := rfl
@[simp] theorem backs_nil (ss : List Slot) (e : Env) : backs [] ss e = e := by cases ss <;> rfl
@[simp] theorem backs_io (i : Nat) (r : List Arg) (s : Slot) (ss : List Slot) (e : Env) : backs (.io i :: r) (s :: ss) e = backs r ss (e.set i s.own) := rfl
@[simp] theorem backs_val (d : D) (r : List Arg) (s : Slot) (ss : List Slot) (e : Env) : backs (.val d :: r) (s :: ss) e = backs r ss e := rfl
@[simp] theorem backs_lent (i : Nat) (r : List Arg) (s : Slot) (ss : List Slot) (e : Env) : backs (.lent i :: r) (s :: ss) e = backs r ss e := rfl
@[simp] theorem own_ol (xs : List D) : Slot.own (.ol xs) = .ol xs := rfl
@[simp] theorem own_v (d : D) : Slot.own (.v d) = .v d := rfl
@[simp] theorem own_u : Slot.own .u = .u := rfl
@[simp] theorem own_b (d : D) : Slot.own (.b d) = .u := rfl
@[simp] theorem tru_none : truthy .none = some false := rfl
@[simp] theorem tru_bool (b : Bool) : truthy (.bool b) = some b := rfl
@[simp] theorem tru_int (i : Int) : truthy (.int i) = some (i != 0) := rfl
@[simp] theorem tru_tuple (xs : List D) : truthy (.tuple xs) = some (!xs.isEmpty) := rfl
@[simp] theorem tru_list (xs : List D) : truthy (.list xs) = some (!xs.isEmpty) := rfl
@[simp] theorem int?_int (i : Int) : int? (.int i) = some i := rfl
@[simp] theorem isOl_ol (xs : List D) : isOl (.ol xs) = some () := rfl
@[simp] theorem appOf_ol (d : D) (xs : List D) : appOf d (.ol xs) = if xs.length < line then some (.ol (xs ++ [d])) else none := rfl
@[simp] theorem popOf_ol (xs : List D) : popOf (.ol xs) = xs.getLast?.map fun d => (d, .ol xs.dropLast) := rfl
@[simp] theorem setOf_ol (z : Int) (d : D) (xs : List D) : setOf z d (.ol xs) = (ixN xs.length z).map fun j => .ol (xs.set j d) := rfl
@[simp] theorem intIn_v (i : Int) : intIn (.v (.int i)) = some i := rfl
@[simp] theorem stInt_st (i : Int) : stInt (.st (.int i)) = some i := rfl
@[simp] theorem intAt_ol (z : Int) (xs : List D) : intAt z (.ol xs) = (atI xs z).bind int? := rfl
@[simp] theorem items_list (xs : List D) : items (.list xs) = some xs := rfl
@[simp] theorem items_tuple (xs : List D) : items (.tuple xs) = some xs := rfl
@[simp] theorem tgb_var (i : Nat) (d : D) (e : Env) : Tg.bind (.var i) d e = some (e.set i (.v d)) := rfl
@[simp] theorem tgb_tup (is : List Nat) (ds : List D) (e : Env) : Tg.bind (.tup is) (.tuple ds) e = setAll e is ds := rfl
@[simp] theorem setAll_nil (e : Env) : setAll e [] [] = some e := rfl
@[simp] theorem setAll_cons (e : Env) (i : Nat) (is : List Nat) (d : D) (ds : List D) : setAll e (i :: is) (d :: ds) = setAll (e.set i (.v d)) is ds := rfl
@[simp] theorem vars_var (i : Nat) : Tg.vars (.var i) = [i] := rfl
@[simp] theorem vars_tup (is : List Nat) : Tg.vars (.tup is) = is := rfl
@[simp] theorem wipe_nil (e : Env) : wipe e [] = e := rfl
@[simp] theorem wipe_cons (e : Env) (i : Nat) (is : List Nat) : wipe e (i :: is) = (wipe e is).set i .u := rfl
@[simp] theorem restore_nil (e0 e : Env) : restore e0 e [] = e := rfl
@[simp] theorem restore_cons (e0 e : Env) (i : Nat) (is : List Nat) : restore e0 e (i :: is) = (restore e0 e is).set i (slot e0 i) := rfl
@[simp] theorem tup?_tuple (ds : List D) : tup? (.tuple ds) = some ds := rfl
@[simp] theorem tgv_tup (ts : List Nat) : (Tg.tup ts).vars = ts := rfl
@[simp] theorem cmp_gt' (i j : Int) : cmp .gt (.int i) (.int j) = some (decide (j < i)) := rfl
@[simp] theorem cmp_lt' (i j : Int) : cmp .lt (.int i) (.int j) = some (decide (i < j)) := rfl
@[simp] theorem cmp_ge' (i j : Int) : cmp .ge (.int i) (.int j) = some (decide (j ≤ i)) := rfl
@[simp] theorem cmp_le' (i j : Int) : cmp .le (.int i) (.int j) = some (decide (i ≤ j)) := rfl
theorem depth_int (i : Int) : PyData.depth (.int i) = 0 := by unfold PyData.depth; rfl
@[simp] theorem cmp_eqI (i j : Int) : cmp .eq (.int i) (.int j) = some (decide (i = j)) := by
  show (if shallow (.int i) (.int j) = true then some (PyData.eqv (.int i) (.int j)) else none) = _
  rw [if_pos (by unfold shallow; rw [depth_int]; rfl)]
  rfl
@[simp] theorem cmp_neI (i j : Int) : cmp .ne (.int i) (.int j) = some (!decide (i = j)) := by
  show (if shallow (.int i) (.int j) = true then some (!PyData.eqv (.int i) (.int j)) else none) = _
  rw [if_pos (by unfold shallow; rw [depth_int]; rfl)]
  rfl
@[simp] theorem cmp_isN (d : D) : cmp .isN d .none = some (isNone d) := by cases d <;> rfl
@[simp] theorem cmp_notN (d : D) : cmp .notN d .none = some (!isNone d) := by cases d <;> rfl
@[simp] theorem isNone_none : isNone .none = true := rfl
@[simp] theorem isNone_int (i : Int) : isNone (.int i) = false := rfl
@[simp] theorem isNone_str (i : Str) : isNone (.str i) = false := rfl
@[simp] theorem isNone_tuple (i : List D) : isNone (.tuple i) = false := rfl
@[simp] theorem isNone_list (i : List D) : isNone (.list i) = false := rfl
@[simp] theorem isNone_bool (i : Bool) : isNone (.bool i) = false := rfl
@[simp] theorem bin_addI (i j : Int) : bin .add (.int i) (.int j) = some (.st (.int (i + j))) := rfl
@[simp] theorem bin_subI (i j : Int) : bin .sub (.int i) (.int j) = some (.st (.int (i - j))) := rfl
theorem bin_mulI (i j : Int) (h : mulOk i j = true) : bin .mul (.int i) (.int j) = some (.st (.int (i * j))) := by
  show (if mulOk i j = true then some (R.st (.int (i * j))) else none) = _
  rw [if_pos h]
theorem bin_fdivI (i j : Int) (h1 : 0 < j) (h2 : j < 1073741824) : bin .fdiv (.int i) (.int j) = some (.st (.int (i / j))) := by
  show (if divOk i j = true then some (R.st (.int (i / j))) else none) = _
  rw [if_pos ((divOk_iff i j).mpr ⟨h1, h2⟩)]
theorem bin_modI (i j : Int) (h1 : 0 < j) : bin .mod (.int i) (.int j) = some (.st (.int (i % j))) := by
  show (if decide (0 < j) = true then some (R.st (.int (i % j))) else none) = _
  rw [if_pos (by simp [h1])]
theorem bin_powI (i j : Int) (h : shOk i j = true) : bin .pow (.int i) (.int j) = some (.st (.int (i ^ j.toNat))) := by
  show (if shOk i j = true then some (R.st (.int (i ^ j.toNat))) else none) = _
  rw [if_pos h]
theorem bin_shlI (i j : Int) (h : shOk i j = true) : bin .shl (.int i) (.int j) = some (.st (.int (i * 2 ^ j.toNat))) := by
  show (if shOk i j = true then some (R.st (.int (i * 2 ^ j.toNat))) else none) = _
  rw [if_pos h]
@[simp] theorem itemAt_own (xs : List D) (k : Int) : itemAt (.own xs) k = (atI xs k).map .st := rfl
@[simp] theorem itemAt_fr (xs : List D) (k : Int) : itemAt (.fr xs) k = (atI xs k).map .st := rfl
@[simp] theorem itemAt_stT (xs : List D) (k : Int) : itemAt (.st (.tuple xs)) k = (atI xs k).map .st := rfl
@[simp] theorem itemAt_stL (xs : List D) (k : Int) : itemAt (.st (.list xs)) k = (atI xs k).map .st := rfl
@[simp] theorem itemAt_borT (xs : List D) (k : Int) : itemAt (.bor (.tuple xs)) k = (atI xs k).map .bor := rfl
@[simp] theorem itemAt_borL (xs : List D) (k : Int) : itemAt (.bor (.list xs)) k = (atI xs k).map .bor := rfl
@[simp] theorem atI_0 {α : Type} (x : α) (xs : List α) : atI (x :: xs) 0 = some x := by
  unfold atI ixN
  simp
theorem atI_lit {α : Type} (xs : List α) (n : Nat) (h : n < xs.length) : atI xs (n : Int) = xs[n]? := by
  unfold atI ixN
  rw [if_pos (by omega), if_pos (by omega)]
  simp
@[simp] theorem atI_1 {α : Type} (x y : α) (xs : List α) : atI (x :: y :: xs) 1 = some y := atI_lit _ 1 (by simp)
@[simp] theorem atI_2 {α : Type} (x y z : α) (xs : List α) : atI (x :: y :: z :: xs) 2 = some z := atI_lit _ 2 (by simp)
@[simp] theorem atI_3 {α : Type} (x y z w : α) (xs : List α) : atI (x :: y :: z :: w :: xs) 3 = some w := atI_lit _ 3 (by simp)
@[simp] theorem atI_4 {α : Type} (x y z w v : α) (xs : List α) : atI (x :: y :: z :: w :: v :: xs) 4 = some v := atI_lit _ 4 (by simp)
theorem ixN_lit (k n : Nat) (h : n < k) : ixN k (n : Int) = some n := by
  unfold ixN
  rw [if_pos (by omega), if_pos (by omega)]
  simp
@[simp] theorem b1Of_len (r : R) : b1Of .len r = b1 .len r.d := rfl
@[simp] theorem b1Of_int (r : R) : b1Of .int r = b1 .int r.d := rfl
@[simp] theorem b1Of_abs (r : R) : b1Of .abs r = b1 .abs r.d := rfl
@[simp] theorem b1Of_isInt (r : R) : b1Of .isInt r = some (.st (.bool r.d.isInt)) := rfl
@[simp] theorem b1Of_isBool (r : R) : b1Of .isBool r = some (.st (.bool r.d.isBool)) := rfl
@[simp] theorem b1Of_isTuple (r : R) : b1Of .isTuple r = some (.st (.bool r.d.isTuple)) := rfl
@[simp] theorem b1Of_isStr (r : R) : b1Of .isStr r = some (.st (.bool r.d.isStr)) := rfl
@[simp] theorem b1Of_all (r : R) : b1Of .all r = b1 .all r.d := rfl
@[simp] theorem b1Of_any (r : R) : b1Of .any r = b1 .any r.d := rfl
@[simp] theorem b1Of_sum (r : R) : b1Of .sum r = b1 .sum r.d := rfl
@[simp] theorem b1_lenL (xs : List D) : b1 .len (.list xs) = some (.st (.int xs.length)) := rfl
@[simp] theorem b1_lenT (xs : List D) : b1 .len (.tuple xs) = some (.st (.int xs.length)) := rfl
@[simp] theorem b1_int (i : Int) : b1 .int (.int i) = some (.st (.int i)) := rfl
@[simp] theorem b1_intB (b : Bool) : b1 .int (.bool b) = some (.st (.int (if b then 1 else 0))) := rfl
@[simp] theorem b1_abs (i : Int) : b1 .abs (.int i) = some (.st (.int (if i < 0 then -i else i))) := rfl
theorem fn_isSome' {L : Table} {n : Nat} {f : String} {F : MFun} (hF : L.fn f = some F) (hn : 1 ≤ n) : ((callN L n).fn f).isSome = true := by
  obtain ⟨n, rfl⟩ : ∃ k, n = k + 1 := ⟨n - 1, by omega⟩
  exact fn_isSome hF
@[simp] theorem argsOk_nil : argsOk [] = true := rfl
@[simp] theorem argsOk_val (d : D) (r : List Arg) : argsOk (.val d :: r) = argsOk r := rfl
@[simp] theorem argsOk_def (as : List Arg) : argsOk as = (decide (ioIxs as).Nodup && (ioIxs as).all fun i => !(lentIxs as).contains i) := rfl
@[simp] theorem ioIxs_nil : ioIxs [] = [] := rfl
@[simp] theorem ioIxs_io (i : Nat) (r : List Arg) : ioIxs (.io i :: r) = i :: ioIxs r := rfl
@[simp] theorem ioIxs_val (d : D) (r : List Arg) : ioIxs (.val d :: r) = ioIxs r := rfl
@[simp] theorem ioIxs_lent (d : Nat) (r : List Arg) : ioIxs (.lent d :: r) = ioIxs r := rfl
@[simp] theorem lentIxs_nil : lentIxs [] = [] := rfl
@[simp] theorem lentIxs_io (i : Nat) (r : List Arg) : lentIxs (.io i :: r) = lentIxs r := rfl
@[simp] theorem lentIxs_val (d : D) (r : List Arg) : lentIxs (.val d :: r) = lentIxs r := rfl
@[simp] theorem lentIxs_lent (i : Nat) (r : List Arg) : lentIxs (.lent i :: r) = i :: lentIxs r := rfl
/-- a def's run, from its caller -/
theorem wp_def {L : Table} {n : Nat} {f : String} {F : MFun} {ss : List Slot} {P : R → List Slot → Prop} {E : Exn → List Slot → Prop} (hF : L.fn f = some F) (hn : 1 ≤ n) (hl : ss.length = F.params) (hi : ((List.range F.params).all fun i => F.io.contains i || (slot ss i).notOwn) = true)
    (h : ∀ m, n = m + 1 → Wp (execs (callN L m) F.io F.body (ss ++ List.replicate (F.slots - F.params) .u)) (kRet F.params F.io P) (kRetX F.params F.io E)) : CWp (callOut (callN L n) f ss) P E := by
  obtain ⟨n, rfl⟩ : ∃ k, n = k + 1 := ⟨n - 1, by omega⟩
  rw [callOut_some hF]
  exact wp_fun hl hi (h n rfl)
end MP
end

section
set_option autoImplicit false
set_option linter.all false
set_option maxRecDepth 100000
/-! Data in Mini: equality, membership, lengths. -/
namespace MP
open PySem
def eqS (d : D) (s : Str) : Bool := PyData.eqv d (.str s)
@[simp] theorem eqS_str (x s : Str) : eqS (.str x) s = (x == s) := by unfold eqS PyData.eqv; rfl
@[simp] theorem eqS_none (s : Str) : eqS .none s = false := by unfold eqS PyData.eqv; rfl
@[simp] theorem eqS_int (i : Int) (s : Str) : eqS (.int i) s = false := by unfold eqS PyData.eqv; rfl
@[simp] theorem eqS_bool (i : Bool) (s : Str) : eqS (.bool i) s = false := by unfold eqS PyData.eqv; rfl
@[simp] theorem eqS_tuple (xs : List D) (s : Str) : eqS (.tuple xs) s = false := by unfold eqS PyData.eqv; rfl
@[simp] theorem eqS_list (xs : List D) (s : Str) : eqS (.list xs) s = false := by unfold eqS PyData.eqv; rfl
theorem eqS_iff {d : D} {s : Str} : eqS d s = true ↔ d = .str s := by
  cases d with
  | str x => rw [eqS_str]; simp
  | none => simp
  | int i => simp
  | bool b => simp
  | tuple xs => simp
  | list xs => simp
  | dict xs => unfold eqS PyData.eqv; simp
theorem depth_str (s : Str) : PyData.depth (.str s) = 0 := by unfold PyData.depth; rfl
theorem depth_none : PyData.depth .none = 0 := by unfold PyData.depth; rfl
theorem depth_bool (b : Bool) : PyData.depth (.bool b) = 0 := by unfold PyData.depth; rfl
theorem shallow_str (d : D) (s : Str) : shallow d (.str s) = true := by unfold shallow; rw [depth_str]; simp
theorem shallow_str' (d : D) (s : Str) : shallow (.str s) d = true := by unfold shallow; rw [depth_str]; simp
@[simp] theorem cmp_eqS (d : D) (s : Str) : cmp .eq d (.str s) = some (eqS d s) := by
  show (if shallow d (.str s) = true then some (PyData.eqv d (.str s)) else none) = _
  rw [if_pos (shallow_str d s)]; rfl
@[simp] theorem cmp_neS (d : D) (s : Str) : cmp .ne d (.str s) = some (!eqS d s) := by
  show (if shallow d (.str s) = true then some (!PyData.eqv d (.str s)) else none) = _
  rw [if_pos (shallow_str d s)]; rfl
theorem shallow_nilL (d : D) : shallow d (.list []) = true := by
  unfold shallow
  rw [show PyData.depth (.list []) = 1 by unfold PyData.depth PyData.depthAll; rfl]; simp
theorem shallow_nilT (d : D) : shallow d (.tuple []) = true := by
  unfold shallow
  rw [show PyData.depth (.tuple []) = 1 by unfold PyData.depth PyData.depthAll; rfl]; simp
theorem eqv_nilL (xs : List D) : PyData.eqv (.list xs) (.list []) = xs.isEmpty := by
  unfold PyData.eqv
  cases xs <;> (unfold PyData.eqvAll; rfl)
theorem eqv_nilT (xs : List D) : PyData.eqv (.tuple xs) (.tuple []) = xs.isEmpty := by
  unfold PyData.eqv
  cases xs <;> (unfold PyData.eqvAll; rfl)
@[simp] theorem cmp_eqNilL (xs : List D) : cmp .eq (.list xs) (.list []) = some xs.isEmpty := by
  show (if shallow _ _ = true then some (PyData.eqv _ _) else none) = _
  rw [if_pos (shallow_nilL _), eqv_nilL]
@[simp] theorem cmp_neNilL (xs : List D) : cmp .ne (.list xs) (.list []) = some (!xs.isEmpty) := by
  show (if shallow _ _ = true then some (!PyData.eqv _ _) else none) = _
  rw [if_pos (shallow_nilL _), eqv_nilL]
@[simp] theorem cmp_eqNilT (xs : List D) : cmp .eq (.tuple xs) (.tuple []) = some xs.isEmpty := by
  show (if shallow _ _ = true then some (PyData.eqv _ _) else none) = _
  rw [if_pos (shallow_nilT _), eqv_nilT]
@[simp] theorem cmp_neNilT (xs : List D) : cmp .ne (.tuple xs) (.tuple []) = some (!xs.isEmpty) := by
  show (if shallow _ _ = true then some (!PyData.eqv _ _) else none) = _
  rw [if_pos (shallow_nilT _), eqv_nilT]
theorem inSeq_of {d : D} {xs : List D} (h : PyData.depthAll xs ≤ 63) : inSeq d xs = some (xs.any fun z => PyData.eqv z d) := by
  unfold inSeq
  rw [if_pos]
  unfold shallow
  rw [show PyData.depth (.list xs) = PyData.depthAll xs + 1 by unfold PyData.depth; rfl, Bool.or_eq_true, decide_eq_true_eq]
  exact .inl (by omega)
theorem eqv_strL (s : Str) (d : D) : PyData.eqv (.str s) d = eqS d s := by
  cases d with
  | str x =>
    rw [eqS_str]
    show (s == x) = (x == s)
    rw [Bool.eq_iff_iff, beq_iff_eq, beq_iff_eq]
    exact eq_comm
  | none => rw [eqS_none]; rfl
  | int i => rw [eqS_int]; rfl
  | bool b => rw [eqS_bool]; rfl
  | tuple xs => rw [eqS_tuple]; rfl
  | list xs => rw [eqS_list]; rfl
  | dict xs => rfl
@[simp] theorem cmp_in2 (d : D) (a b : Str) : cmp .isIn d (.tuple [.str a, .str b]) = some (eqS d a || eqS d b) := by
  show inSeq d _ = _
  rw [inSeq_of (by simp [PyData.depthAll, depth_str])]
  simp [eqv_strL]
@[simp] theorem cmp_in3 (d : D) (a b c : Str) : cmp .isIn d (.tuple [.str a, .str b, .str c]) = some (eqS d a || (eqS d b || eqS d c)) := by
  show inSeq d _ = _
  rw [inSeq_of (by simp [PyData.depthAll, depth_str])]
  simp [eqv_strL]
@[simp] theorem line_val : line = 16777216 := rfl
@[simp] theorem isT_tuple (xs : List D) : PyData.isTuple (.tuple xs) = true := rfl
@[simp] theorem isT_list (xs : List D) : PyData.isTuple (.list xs) = false := rfl
@[simp] theorem isT_none : PyData.isTuple .none = false := rfl
@[simp] theorem isT_int (i : Int) : PyData.isTuple (.int i) = false := rfl
@[simp] theorem isT_bool (i : Bool) : PyData.isTuple (.bool i) = false := rfl
@[simp] theorem isT_str (i : Str) : PyData.isTuple (.str i) = false := rfl
@[simp] theorem isT_dict (i : List (D × D)) : PyData.isTuple (.dict i) = false := rfl
@[simp] theorem isI_tuple (xs : List D) : PyData.isInt (.tuple xs) = false := rfl
@[simp] theorem isI_list (xs : List D) : PyData.isInt (.list xs) = false := rfl
@[simp] theorem isI_none : PyData.isInt .none = false := rfl
@[simp] theorem isI_int (i : Int) : PyData.isInt (.int i) = true := rfl
@[simp] theorem isI_bool (i : Bool) : PyData.isInt (.bool i) = true := rfl
@[simp] theorem isI_str (i : Str) : PyData.isInt (.str i) = false := rfl
@[simp] theorem isI_dict (i : List (D × D)) : PyData.isInt (.dict i) = false := rfl
@[simp] theorem isB_tuple (xs : List D) : PyData.isBool (.tuple xs) = false := rfl
@[simp] theorem isB_list (xs : List D) : PyData.isBool (.list xs) = false := rfl
@[simp] theorem isB_none : PyData.isBool .none = false := rfl
@[simp] theorem isB_int (i : Int) : PyData.isBool (.int i) = false := rfl
@[simp] theorem isB_bool (i : Bool) : PyData.isBool (.bool i) = true := rfl
@[simp] theorem isB_str (i : Str) : PyData.isBool (.str i) = false := rfl
@[simp] theorem isB_dict (i : List (D × D)) : PyData.isBool (.dict i) = false := rfl
@[simp] theorem isS_tuple (xs : List D) : PyData.isStr (.tuple xs) = false := rfl
@[simp] theorem isS_list (xs : List D) : PyData.isStr (.list xs) = false := rfl
@[simp] theorem isS_none : PyData.isStr .none = false := rfl
@[simp] theorem isS_int (i : Int) : PyData.isStr (.int i) = false := rfl
@[simp] theorem isS_bool (i : Bool) : PyData.isStr (.bool i) = false := rfl
@[simp] theorem isS_str (i : Str) : PyData.isStr (.str i) = true := rfl
@[simp] theorem isS_dict (i : List (D × D)) : PyData.isStr (.dict i) = false := rfl
@[simp] theorem outsN_1 (e : Env) : outsN 1 [] e = [.u] := rfl
@[simp] theorem outsN_2 (e : Env) : outsN 2 [] e = [.u, .u] := rfl
@[simp] theorem outsN_3 (e : Env) : outsN 3 [] e = [.u, .u, .u] := rfl
@[simp] theorem outsN_4 (e : Env) : outsN 4 [] e = [.u, .u, .u, .u] := rfl
@[simp] theorem outsN_5 (e : Env) : outsN 5 [] e = [.u, .u, .u, .u, .u] := rfl
@[simp] theorem outsN_10 (e : Env) : outsN 1 [0] e = [slot e 0] := rfl
@[simp] theorem outsN_20 (e : Env) : outsN 2 [0] e = [slot e 0, .u] := rfl
@[simp] theorem outsN_30 (e : Env) : outsN 3 [0] e = [slot e 0, .u, .u] := rfl
@[simp] theorem outsN_40 (e : Env) : outsN 4 [0] e = [slot e 0, .u, .u, .u] := rfl
@[simp] theorem outsN_50 (e : Env) : outsN 5 [0] e = [slot e 0, .u, .u, .u, .u] := rfl
theorem b1_all_map {α : Type} (l : List α) (f : α → Bool) : b1 .all (.list (l.map fun x => .bool (f x))) = some (.st (.bool (l.all f))) := by
  show (if (l.map fun x => PyData.bool (f x)).all fitB = true then some (R.st (.bool ((l.map fun x => PyData.bool (f x)).all PyData.truthy))) else none) = _
  rw [if_pos (by rw [List.all_map, List.all_eq_true]; intro x _; rfl), List.all_map]
  rfl
theorem b1_any_map {α : Type} (l : List α) (f : α → Bool) : b1 .any (.list (l.map fun x => .bool (f x))) = some (.st (.bool (l.any f))) := by
  show (if (l.map fun x => PyData.bool (f x)).all fitB = true then some (R.st (.bool ((l.map fun x => PyData.bool (f x)).any PyData.truthy))) else none) = _
  rw [if_pos (by rw [List.all_map, List.all_eq_true]; intro x _; rfl), List.any_map]
  rfl
@[simp] theorem walked_stT (xs : List D) : walked (.st (.tuple xs)) = some xs := by unfold walked; simp
@[simp] theorem walked_stL (xs : List D) : walked (.st (.list xs)) = some xs := by unfold walked; simp
@[simp] theorem walked_fr (xs : List D) : walked (.fr xs) = some xs := by unfold walked; simp
theorem walked_borL (xs : List D) (h : xs.all immut = true) : walked (.bor (.list xs)) = some xs := by
  unfold walked
  simp only [d_bor, items_list, Option.bind_some, walks_bor, Bool.true_and]
  rw [if_pos]
  rw [List.all_eq_true] at h ⊢
  exact fun x hx => by rw [iok_bor]; exact h x hx
theorem walked_borT (xs : List D) (h : xs.all immut = true) : walked (.bor (.tuple xs)) = some xs := by
  unfold walked
  simp only [d_bor, items_tuple, Option.bind_some, walks_bor, Bool.true_and]
  rw [if_pos]
  rw [List.all_eq_true] at h ⊢
  exact fun x hx => by rw [iok_bor]; exact h x hx
/-- a comprehension that changes nothing and keeps all -/
theorem take_map_succ {α β : Type} (l : List α) (f : α → β) (k : Nat) (x : α) (h : l[k]? = some x) : (l.take k).map f ++ [f x] = (l.take (k + 1)).map f := by
  obtain ⟨hk, e⟩ := List.getElem?_eq_some_iff.mp h
  rw [List.take_succ, h, List.map_append]
  rfl
theorem map_take_succ {α β : Type} (l : List α) (f : α → β) (k : Nat) (x : α) (h : l[k]? = some x) : (l.map f).take k ++ [f x] = (l.map f).take (k + 1) := by
  rw [← List.map_take, ← List.map_take]
  exact take_map_succ l f k x h
theorem map_take_all {α β : Type} (l : List α) (f : α → β) : (l.map f).take l.length = l.map f := List.take_of_length_le (by simp)
theorem take_all_succ {α : Type} (l : List α) (f : α → Bool) (k : Nat) (x : α) (h : l[k]? = some x) (h1 : (l.take k).all f = true) (h2 : f x = true) : (l.take (k + 1)).all f = true := by
  rw [List.take_succ, h, List.all_append, h1]
  simp [h2]
@[simp] theorem part_int (i : Int) : part (.int i) = some (some i) := rfl
@[simp] theorem part_none : part .none = some none := rfl
@[simp] theorem slc1 (h : D) (t : List D) : sliceOf (.st (.tuple (h :: t))) (some 1) none = some (.st (.tuple t)) := by
  unfold sliceOf cut sIx
  simp
@[simp] theorem b1Of_listT (xs : List D) : b1Of .list (.st (.tuple xs)) = some (.fr xs) := by unfold b1Of; simp [B1.keeps, b1]
@[simp] theorem b1Of_listL (xs : List D) : b1Of .list (.st (.list xs)) = some (.fr xs) := by unfold b1Of; simp [B1.keeps, b1]
@[simp] theorem b1Of_listF (xs : List D) : b1Of .list (.fr xs) = some (.fr xs) := by unfold b1Of; simp [B1.keeps, b1]
@[simp] theorem b1Of_tupF (xs : List D) : b1Of .tuple (.fr xs) = some (.st (.tuple xs)) := by unfold b1Of; simp [B1.keeps, b1]
@[simp] theorem b1Of_tupO (xs : List D) : b1Of .tuple (.own xs) = some (.st (.tuple xs)) := by unfold b1Of; simp [B1.keeps, b1]
@[simp] theorem b1Of_tupT (xs : List D) : b1Of .tuple (.st (.tuple xs)) = some (.st (.tuple xs)) := by unfold b1Of; simp [B1.keeps, b1]
@[simp] theorem b1Of_tupL (xs : List D) : b1Of .tuple (.st (.list xs)) = some (.st (.tuple xs)) := by unfold b1Of; simp [B1.keeps, b1]
theorem b1Of_listB (xs : List D) (h : xs.all immut = true) : b1Of .list (.bor (.tuple xs)) = some (.fr xs) := by
  unfold b1Of
  rw [if_pos]
  · rfl
  · show (!B1.list.keeps || xs.all (R.itemOk (.bor (.tuple xs)))) = true
    rw [show (R.itemOk (.bor (.tuple xs))) = immut from rfl, h]; rfl
@[simp] theorem revOf_fr (xs : List D) : revOf (.fr xs) = some (.fr xs.reverse) := by unfold revOf; simp
@[simp] theorem revOf_st (xs : List D) : revOf (.st (.tuple xs)) = some (.st (.tuple xs.reverse)) := by unfold revOf; simp
@[simp] theorem extOf_list (xs ys : List D) : extOf (.list ys) (.ol xs) = if xs.length + ys.length ≤ line then some (.ol (xs ++ ys)) else none := rfl
@[simp] theorem extOf_tup (xs ys : List D) : extOf (.tuple ys) (.ol xs) = if xs.length + ys.length ≤ line then some (.ol (xs ++ ys)) else none := rfl
theorem smallI_nat (n : Nat) (h : n ≤ 16777216) : smallI (n : Int) = true := by
  rw [smallI_iff]
  omega
theorem range0_get (n k : Nat) : (rangeL 0 (rangeN 0 (n : Int)) 1)[k]? = if k < n then some (.int (k : Int)) else none := by
  simp [rangeL, rangeN]
  split <;> rename_i h <;> simp [h]
theorem range0_len (n : Nat) : (rangeL 0 (rangeN 0 (n : Int)) 1).length = n := by simp [rangeL, rangeN]
@[simp] theorem b2_min (i j : Int) : b2 .min (.int i) (.int j) = some (.int (if j < i then j else i)) := rfl
@[simp] theorem b2_max (i j : Int) : b2 .max (.int i) (.int j) = some (.int (if j > i then j else i)) := rfl
/-- an int, not a bool, from lo to hi -/
def isIntIn (d : D) (lo hi : Int) : Bool := match d with
  | .int i => decide (lo ≤ i) && decide (i ≤ hi)
  | _ => false
def isIntD (d : D) : Bool := match d with
  | .int _ => true
  | _ => false
end MP
end

section
set_option autoImplicit false
set_option linter.all false
set_option maxRecDepth 100000
/-! How the slots of Mini lie in the hand layer's heap. -/
namespace MP
open PySem PySem.Spec PyProof.Rows L2

/-! ### a value in the heap: its lists at places of T -/
/-- a list of the written part -/
def KLst (K : PySem.W.Frag) (a : Addr) (xs : List V) : Prop :=
  ∃ (o : Obj) (its : Array Value) (n : Nat), K.lookup a = some o ∧ o.cls = .type "list" ∧ o.dict = none ∧ o.data = .seq its n ∧ its.size ≤ sizeLine ∧ Vals xs its.toList
abbrev tupN (its : Array Value) (n : Nat) : Obj := { cls := .type "tuple", data := .seq its n }
/-- a tuple: the heap's whole object is known; or one of the written part -/
def SqF (K : PySem.W.Frag) (H : Hp) (a : Addr) (xs : List V) : Prop :=
  (∃ its n, H a = some (.frz (tupN its n) (.tup xs))) ∨ ∃ (its : Array Value) (n : Nat), K.lookup a = some (tupN its n) ∧ its.size ≤ sizeLine ∧ Vals xs its.toList
theorem SqF.sq {K : PySem.W.Frag} {H : Hp} {a : Addr} {xs : List V} (h : SqF K H a xs) : SqT K H a xs := by
  rcases h with ⟨its, n, h⟩ | ⟨its, n, h, hz, hv⟩
  · exact .inl (.inr ⟨_, h⟩)
  · exact .inr ⟨_, its, n, h, rfl, rfl, hz, hv⟩
mutual
inductive Rq (K : PySem.W.Frag) (H : Hp) (T : Addr → Prop) (kl : Prop) : V → D → Prop
  | non : Rq K H T kl .non .none
  | bl (b : Bool) : Rq K H T kl (.bl b) (.bool b)
  | int (i : Int) : Rq K H T kl (.int i) (.int i)
  | str (x : Str) : Rq K H T kl (.str x) (.str x)
  | lst {a : Addr} {xs : List V} {ds : List D} : (T a ∧ Rd H a (.lst xs)) ∨ (kl ∧ KLst K a xs) → RqAll K H T kl xs ds → Rq K H T kl (.ref a) (.list ds)
  | tup {a : Addr} {xs : List V} {ds : List D} : SqF K H a xs → RqAll K H T kl xs ds → Rq K H T kl (.ref a) (.tuple ds)
inductive RqAll (K : PySem.W.Frag) (H : Hp) (T : Addr → Prop) (kl : Prop) : List V → List D → Prop
  | nil : RqAll K H T kl [] []
  | cons {v : V} {vs : List V} {d : D} {ds : List D} : Rq K H T kl v d → RqAll K H T kl vs ds → RqAll K H T kl (v :: vs) (d :: ds)
end

section
variable {K : PySem.W.Frag} {H H' : Hp} {T T' : Addr → Prop} {kl kl' : Prop}
theorem SqL.keep {a : Addr} {xs : List V} (h : SqL K H a xs) (k : ∀ o, H a = some o → H' a = some o) : SqL K H' a xs := by
  rcases h with (h | ⟨o, h⟩) | h
  · exact .inl (.inl (k _ h))
  · exact .inl (.inr ⟨o, k _ h⟩)
  · exact .inr h
theorem SqF.keep {a : Addr} {xs : List V} (h : SqF K H a xs) (k2 : ∀ o u, H a = some (.frz o u) → H' a = some (.frz o u)) : SqF K H' a xs := by
  rcases h with ⟨its, n, h⟩ | h
  · exact .inl ⟨its, n, k2 _ _ h⟩
  · exact .inr h
/-- what a value leans on is kept -/
structure Kept (H H' : Hp) (T T' : Addr → Prop) : Prop where
  t : ∀ a, T a → T' a
  k : ∀ a o, T a → H a = some o → H' a = some o
  frz : ∀ a o u, H a = some (.frz o u) → H' a = some (.frz o u)
mutual
theorem Rq.keep (k : Kept H H' T T') : ∀ {d : D} {v : V}, Rq K H T kl v d → Rq K H' T' kl v d
  | .none, _, h => by cases h; exact .non
  | .bool _, _, h => by cases h; exact .bl _
  | .int _, _, h => by cases h; exact .int _
  | .str _, _, h => by cases h; exact .str _
  | .list _, _, h => by
    cases h with
    | lst hs ha => exact .lst (hs.imp (fun ⟨ht, q⟩ => ⟨k.t _ ht, q.imp (k.k _ _ ht) fun ⟨o, z⟩ => ⟨o, k.k _ _ ht z⟩⟩) id) (RqAll.keep k ha)
  | .tuple _, _, h => by
    cases h with
    | tup hs ha => exact .tup (hs.keep fun o u e => k.frz _ o u e) (RqAll.keep k ha)
  | .dict _, _, h => by cases h
theorem RqAll.keep (k : Kept H H' T T') : ∀ {ds : List D} {vs : List V}, RqAll K H T kl vs ds → RqAll K H' T' kl vs ds
  | [], _, h => by cases h; exact .nil
  | _ :: _, _, h => by
    cases h with
    | cons h1 h2 => exact .cons (Rq.keep k h1) (RqAll.keep k h2)
end
theorem Kept.refl (h : ∀ a, T a → T' a) : Kept H H T T' := ⟨h, fun _ _ _ e => e, fun _ _ _ e => e⟩
mutual
/-- what cannot change needs no place -/
theorem Rq.immut : ∀ {d : D} {v : V}, MP.immut d = true → Rq K H T kl v d → Rq K H T' kl' v d
  | .none, _, _, h => by cases h; exact .non
  | .bool _, _, _, h => by cases h; exact .bl _
  | .int _, _, _, h => by cases h; exact .int _
  | .str _, _, _, h => by cases h; exact .str _
  | .list _, _, q, h => by simp [MP.immut] at q
  | .tuple ds, _, q, h => by
    cases h with
    | tup hs ha => exact .tup hs (RqAll.immut (show MP.immutAll ds = true by simpa [MP.immut] using q) ha)
  | .dict _, _, q, h => by cases h
theorem RqAll.immut : ∀ {ds : List D} {vs : List V}, MP.immutAll ds = true → RqAll K H T kl vs ds → RqAll K H T' kl' vs ds
  | [], _, _, h => by cases h; exact .nil
  | d :: ds, _, q, h => by
    have q' : MP.immut d = true ∧ MP.immutAll ds = true := by simpa [MP.immutAll] using q
    cases h with
    | cons h1 h2 => exact .cons (Rq.immut q'.1 h1) (RqAll.immut q'.2 h2)
end
mutual
theorem Rq.dp : ∀ {d : D} {v : V}, Rq K H T kl v d → Dp K H v d
  | .none, _, h => by cases h; exact .non
  | .bool _, _, h => by cases h; exact .bl _
  | .int _, _, h => by cases h; exact .int _
  | .str _, _, h => by cases h; exact .str _
  | .list _, _, h => by
    cases h with
    | lst hs ha => exact .lst (hs.imp And.right And.right) (RqAll.dp ha)
  | .tuple _, _, h => by
    cases h with
    | tup hs ha => exact .tup hs.sq (RqAll.dp ha)
  | .dict _, _, h => by cases h
theorem RqAll.dp : ∀ {ds : List D} {vs : List V}, RqAll K H T kl vs ds → DpAll K H vs ds
  | [], _, h => by cases h; exact .nil
  | _ :: _, _, h => by
    cases h with
    | cons h1 h2 => exact .cons (Rq.dp h1) (RqAll.dp h2)
end
theorem RqAll.length : ∀ {ds : List D} {vs : List V}, RqAll K H T kl vs ds → vs.length = ds.length
  | _, _, .nil => rfl
  | _, _, .cons _ h => by rw [List.length_cons, List.length_cons, RqAll.length h]
theorem RqAll.get : ∀ {ds : List D} {vs : List V} {i : Nat} {d : D}, RqAll K H T kl vs ds → ds[i]? = some d → ∃ v, vs[i]? = some v ∧ Rq K H T kl v d
  | _, _, _, _, .nil, e => by simp at e
  | _, _, 0, _, .cons h _, e => by simp at e; subst e; exact ⟨_, rfl, h⟩
  | _, _, i + 1, d, .cons _ t, e => by
    obtain ⟨v, h1, h2⟩ := RqAll.get (i := i) (d := d) t (by simpa using e)
    exact ⟨v, by simpa using h1, h2⟩
theorem RqAll.get' : ∀ {ds : List D} {vs : List V} {i : Nat} {v : V}, RqAll K H T kl vs ds → vs[i]? = some v → ∃ d, ds[i]? = some d ∧ Rq K H T kl v d
  | _, _, _, _, .nil, e => by simp at e
  | _, _, 0, _, .cons h _, e => by simp at e; subst e; exact ⟨_, rfl, h⟩
  | _, _, i + 1, d, .cons _ t, e => by
    obtain ⟨v, h1, h2⟩ := RqAll.get' (i := i) (v := d) t (by simpa using e)
    exact ⟨v, by simpa using h1, h2⟩
theorem RqAll.append : ∀ {ds es : List D} {vs ws : List V}, RqAll K H T kl vs ds → RqAll K H T kl ws es → RqAll K H T kl (vs ++ ws) (ds ++ es)
  | _, _, _, _, .nil, s => s
  | _, _, _, _, .cons r t, s => .cons r (RqAll.append t s)
theorem RqAll.one {d : D} {v : V} (h : Rq K H T kl v d) : RqAll K H T kl [v] [d] := .cons h .nil
theorem RqAll.take : ∀ {ds : List D} {vs : List V} (n : Nat), RqAll K H T kl vs ds → RqAll K H T kl (vs.take n) (ds.take n)
  | _, _, 0, _ => .nil
  | _, _, _ + 1, .nil => .nil
  | _, _, n + 1, .cons r t => .cons r (RqAll.take n t)
theorem RqAll.drop : ∀ {ds : List D} {vs : List V} (n : Nat), RqAll K H T kl vs ds → RqAll K H T kl (vs.drop n) (ds.drop n)
  | _, _, 0, r => r
  | _, _, _ + 1, .nil => .nil
  | _, _, n + 1, .cons _ t => RqAll.drop n t
theorem RqAll.set {d : D} {v : V} (r : Rq K H T kl v d) : ∀ {ds : List D} {vs : List V} (i : Nat), RqAll K H T kl vs ds → RqAll K H T kl (vs.set i v) (ds.set i d)
  | _, _, _, .nil => .nil
  | _, _, 0, .cons _ t => .cons r t
  | _, _, i + 1, .cons q t => .cons q (RqAll.set r i t)
theorem RqAll.eraseIdx : ∀ {ds : List D} {vs : List V} (i : Nat), RqAll K H T kl vs ds → RqAll K H T kl (vs.eraseIdx i) (ds.eraseIdx i)
  | _, _, _, .nil => .nil
  | _, _, 0, .cons _ t => t
  | _, _, i + 1, .cons q t => .cons q (RqAll.eraseIdx i t)
theorem RqAll.reverse {ds : List D} {vs : List V} (h : RqAll K H T kl vs ds) : RqAll K H T kl vs.reverse ds.reverse := by
  induction ds generalizing vs with
  | nil => cases h; exact .nil
  | cons d ds ih =>
    cases h with
    | cons h1 h2 => rw [List.reverse_cons, List.reverse_cons]; exact (ih h2).append (.one h1)
theorem RqAll.dropLast {ds : List D} {vs : List V} (h : RqAll K H T kl vs ds) : RqAll K H T kl vs.dropLast ds.dropLast := by
  rw [List.dropLast_eq_take, List.dropLast_eq_take, h.length]
  exact h.take _
theorem RqAll.rep {ds : List D} {vs : List V} (h : RqAll K H T kl vs ds) : ∀ k : Nat, RqAll K H T kl (List.replicate k vs).flatten (List.replicate k ds).flatten
  | 0 => .nil
  | k + 1 => by rw [List.replicate_succ, List.replicate_succ, List.flatten_cons, List.flatten_cons]; exact h.append (h.rep k)
theorem RqAll.immutAll : ∀ {ds : List D} {vs : List V}, ds.all MP.immut = true → RqAll K H T kl vs ds → RqAll K H T' kl' vs ds
  | _, _, _, .nil => .nil
  | _, _, q, .cons h t => by
    rw [List.all_cons, Bool.and_eq_true] at q
    exact .cons (Rq.immut q.1 h) (RqAll.immutAll q.2 t)
theorem RqAll.of_get : ∀ {ds : List D} {vs : List V}, vs.length = ds.length → (∀ (i : Nat) (v : V) (d : D), vs[i]? = some v → ds[i]? = some d → Rq K H T kl v d) → RqAll K H T kl vs ds
  | [], [], _, _ => .nil
  | [], _ :: _, e, _ => by cases e
  | _ :: _, [], e, _ => by cases e
  | d :: ds, v :: vs, e, h => .cons (h 0 v d rfl rfl) (RqAll.of_get (by simpa using e) fun i x y h1 h2 => h (i + 1) x y (by simpa using h1) (by simpa using h2))
end

/-- a value that is kept, a value that is lent -/
abbrev Rp (K : PySem.W.Frag) (H : Hp) (T : Addr → Prop) : V → D → Prop := Rq K H T False
abbrev RpAll (K : PySem.W.Frag) (H : Hp) (T : Addr → Prop) : List V → List D → Prop := RqAll K H T False

/-! ### slots and answers in the heap -/
section
variable (K : PySem.W.Frag) (H : Hp) (T B : Addr → Prop)
abbrev TB (T B : Addr → Prop) : Addr → Prop := fun a => T a ∨ B a
inductive OwnAll : List Addr → List (List D) → Prop
  | nil : OwnAll [] []
  | cons {a : Addr} {as : List Addr} {vs : List V} {xs : List D} {xss : List (List D)} : H a = some (.lst vs) → RpAll K H T vs xs → OwnAll as xss → OwnAll (a :: as) (xs :: xss)
/-- a slot, what stands in it, the places that it owns -/
def SR (vo : Option (Option V)) : Slot → List Addr → Prop
  | .u, fp => fp = []
  | .v d, fp => fp = [] ∧ ∃ x, vo = some (some x) ∧ Rp K H T x d
  | .b d, fp => fp = [] ∧ ∃ x, vo = some (some x) ∧ Rq K H (TB T B) True x d
  | .ol xs, fp => ∃ a vs, vo = some (some (.ref a)) ∧ fp = [a] ∧ H a = some (.lst vs) ∧ RpAll K H T vs xs
  | .ol2 xss, fp => ∃ a as, vo = some (some (.ref a)) ∧ fp = a :: as ∧ H a = some (.lst (as.map .ref)) ∧ OwnAll K H T as xss
/-- an answer -/
def RR (v : V) : R → List Addr → Prop
  | .st d, fp => fp = [] ∧ Rp K H T v d
  | .fr xs, fp => ∃ a vs, v = .ref a ∧ fp = [a] ∧ H a = some (.lst vs) ∧ RpAll K H T vs xs
  | .own xs, fp => fp = [] ∧ ∃ a vs, v = .ref a ∧ H a = some (.lst vs) ∧ RpAll K H T vs xs
  | .own2 xss, fp => fp = [] ∧ ∃ a as, v = .ref a ∧ H a = some (.lst (as.map .ref)) ∧ OwnAll K H T as xss
  | .bor d, fp => fp = [] ∧ Rq K H (TB T B) True v d
/-- a frame: fps i are the places that slot i owns -/
structure Fm (fps : Nat → List Addr) (σ : L2.St) (e : Env) : Prop where
  len : σ.length = e.length
  sl : ∀ i, SR K H T B (σ[i]?) (slot e i) (fps i)
  nd : ∀ i, (fps i).Nodup
  dj : ∀ i j a, a ∈ fps i → a ∈ fps j → i = j
  dT : ∀ i a, a ∈ fps i → ¬ T a
  dB : ∀ i a, a ∈ fps i → ¬ B a
  td : ∀ a, T a → H a ≠ none
  bd : ∀ a, B a → H a ≠ none
end
/-- from one state to a later one -/
structure Ext (B : Addr → Prop) (H : Hp) (T : Addr → Prop) (fps : Nat → List Addr) (H' : Hp) (T' : Addr → Prop) (fps' : Nat → List Addr) : Prop where
  t : ∀ a, T a → T' a
  keep : ∀ a o, H a = some o → (∀ i, a ∉ fps i) → H' a = some o
  tb : ∀ a o, TB T B a → H a = some o → H' a = some o
  frz : ∀ a o u, H a = some (.frz o u) → H' a = some (.frz o u)
  nT : ∀ a, T' a → T a ∨ (∃ i, a ∈ fps i) ∨ H a = none
  nF : ∀ a i, a ∈ fps' i → a ∈ fps i ∨ H a = none
  dm : ∀ a, H a ≠ none → H' a ≠ none
section
variable {K : PySem.W.Frag} {B T T1 T2 : Addr → Prop} {H H1 H2 : Hp} {fps fps1 fps2 : Nat → List Addr} {σ : L2.St} {e : Env}
theorem Ext.refl : Ext B H T fps H T fps := ⟨fun _ h => h, fun _ _ h _ => h, fun _ _ _ h => h, fun _ _ _ h => h, fun _ h => .inl h, fun _ _ h => .inl h, fun _ h => h⟩
theorem Ext.trans (a : Ext B H T fps H1 T1 fps1) (b : Ext B H1 T1 fps1 H2 T2 fps2) : Ext B H T fps H2 T2 fps2 where
  t := fun x h => b.t x (a.t x h)
  keep := fun x o h hn => b.keep x o (a.keep x o h hn) fun i q => by
    rcases a.nF x i q with z | z
    · exact hn i z
    · rw [h] at z; cases z
  tb := fun x o h q => b.tb x o (h.imp (a.t x) id) (a.tb x o h q)
  frz := fun x o u h => b.frz x o u (a.frz x o u h)
  nT := fun x h => by
    rcases b.nT x h with z | ⟨i, z⟩ | z
    · exact a.nT x z
    · exact .inr ((a.nF x i z).imp (fun q => ⟨i, q⟩) id)
    · refine .inr (.inr ?_)
      cases q : H x with
      | none => rfl
      | some o => exact absurd z (a.dm x (by rw [q]; simp))
  nF := fun x i h => by
    rcases b.nF x i h with z | z
    · exact a.nF x i z
    · refine .inr ?_
      cases q : H x with
      | none => rfl
      | some o => exact absurd z (a.dm x (by rw [q]; simp))
  dm := fun x h => b.dm x (a.dm x h)
theorem Ext.kept (x : Ext B H T fps H1 T1 fps1) : Kept H H1 T T1 := ⟨x.t, fun a o h q => x.tb a o (.inl h) q, x.frz⟩
theorem Ext.keptB (x : Ext B H T fps H1 T1 fps1) : Kept H H1 (TB T B) (TB T1 B) := ⟨fun a h => h.imp (x.t a) id, x.tb, x.frz⟩
theorem OwnAll.keep (k : Kept H H1 T T1) : ∀ {as : List Addr} {xss : List (List D)}, (∀ a ∈ as, ∀ o, H a = some o → H1 a = some o) → OwnAll K H T as xss → OwnAll K H1 T1 as xss
  | _, _, _, .nil => .nil
  | _, _, hk, .cons h r t => .cons (hk _ List.mem_cons_self _ h) (r.keep k) (OwnAll.keep k (fun a ha => hk a (List.mem_cons_of_mem _ ha)) t)
theorem OwnAll.there : ∀ {as : List Addr} {xss : List (List D)}, OwnAll K H T as xss → ∀ a ∈ as, ∃ vs, H a = some (.lst vs)
  | _, _, .nil, _, h => by cases h
  | _, _, .cons h _ t, a, ha => by
    rcases List.mem_cons.mp ha with e | ha
    · subst e; exact ⟨_, h⟩
    · exact OwnAll.there t a ha
theorem OwnAll.length : ∀ {as : List Addr} {xss : List (List D)}, OwnAll K H T as xss → as.length = xss.length
  | _, _, .nil => rfl
  | _, _, .cons _ _ t => by rw [List.length_cons, List.length_cons, t.length]
theorem SR.keep {vo : Option (Option V)} {s : Slot} {fp : List Addr} (h : SR K H T B vo s fp) (k : Kept H H1 T T1) (kb : Kept H H1 (TB T B) (TB T1 B)) (hf : ∀ a ∈ fp, ∀ o, H a = some o → H1 a = some o) : SR K H1 T1 B vo s fp := by
  cases s with
  | u => exact h
  | v d => obtain ⟨h0, x, h1, h2⟩ := h; exact ⟨h0, x, h1, h2.keep k⟩
  | b d => obtain ⟨h0, x, h1, h2⟩ := h; exact ⟨h0, x, h1, h2.keep kb⟩
  | ol xs =>
    obtain ⟨a, vs, h1, h2, h3, h4⟩ := h
    exact ⟨a, vs, h1, h2, hf a (by rw [h2]; exact List.mem_cons_self) _ h3, h4.keep k⟩
  | ol2 xss =>
    obtain ⟨a, as, h1, h2, h3, h4⟩ := h
    exact ⟨a, as, h1, h2, hf a (by rw [h2]; exact List.mem_cons_self) _ h3, h4.keep k fun b hb => hf b (by rw [h2]; exact List.mem_cons_of_mem _ hb)⟩
theorem SR.there {vo : Option (Option V)} {s : Slot} {fp : List Addr} (h : SR K H T B vo s fp) : ∀ a ∈ fp, ∃ vs, H a = some (.lst vs) := by
  intro a ha
  cases s with
  | u => rw [h] at ha; cases ha
  | v d => rw [h.1] at ha; cases ha
  | b d => rw [h.1] at ha; cases ha
  | ol xs =>
    obtain ⟨b, vs, h1, h2, h3, h4⟩ := h
    rw [h2] at ha
    have e : a = b := by simpa using ha
    subst e; exact ⟨_, h3⟩
  | ol2 xss =>
    obtain ⟨b, as, h1, h2, h3, h4⟩ := h
    rw [h2] at ha
    rcases List.mem_cons.mp ha with e | ha
    · subst e; exact ⟨_, h3⟩
    · exact h4.there a ha
theorem Fm.there (f : Fm K H T B fps σ e) {i : Nat} {a : Addr} (h : a ∈ fps i) : ∃ vs, H a = some (.lst vs) := (f.sl i).there a h
theorem Fm.notNone (f : Fm K H T B fps σ e) {i : Nat} {a : Addr} (hn : H a = none) : a ∉ fps i := fun h => by
  obtain ⟨vs, q⟩ := f.there h
  rw [hn] at q; cases q

/-! ### steps -/
theorem upd_some {p a : Addr} {o : HO} (h : H a ≠ none) : upd H p o a ≠ none := by
  by_cases e : a = p
  · subst e; rw [upd_same]; simp
  · rw [upd_ne e]; exact h

/-- one more thing stands in the heap -/
theorem Kept.new {p : Addr} {o : HO} (hn : H p = none) (ht : ∀ a, T a → T1 a) : Kept H (upd H p o) T T1 :=
  ⟨ht, fun a u _ h => by rw [upd_ne (ne_of_none h hn)]; exact h, fun a u w h => by rw [upd_ne (ne_of_none h hn)]; exact h⟩
theorem Fm.new {p : Addr} {o : HO} (f : Fm K H T B fps σ e) (hn : H p = none) : Fm K (upd H p o) T B fps σ e :=
  ⟨f.len, fun i => (f.sl i).keep (.new hn fun _ h => h) (.new hn fun _ h => h) fun a ha u q => by rw [upd_ne (ne_of_none q hn)]; exact q, f.nd, f.dj, f.dT, f.dB, fun a h => upd_some (f.td a h), fun a h => upd_some (f.bd a h)⟩
theorem Ext.new {p : Addr} {o : HO} (hn : H p = none) : Ext B H T fps (upd H p o) T fps :=
  ⟨fun _ h => h, fun a u h _ => by rw [upd_ne (ne_of_none h hn)]; exact h, fun a u _ h => by rw [upd_ne (ne_of_none h hn)]; exact h, fun a u w h => by rw [upd_ne (ne_of_none h hn)]; exact h,
    fun _ h => .inl h, fun _ _ h => .inl h, fun _ h => upd_some h⟩
/-- more places are values' -/
theorem Fm.grow (f : Fm K H T B fps σ e) (h1 : ∀ a, T a → T1 a) (h2 : ∀ i a, a ∈ fps i → ¬ T1 a) (h3 : ∀ a, T1 a → H a ≠ none) : Fm K H T1 B fps σ e :=
  ⟨f.len, fun i => (f.sl i).keep (.refl h1) (.refl fun a h => h.imp (h1 a) id) fun _ _ _ q => q, f.nd, f.dj, h2, f.dB, h3, f.bd⟩
theorem Ext.grow (h1 : ∀ a, T a → T1 a) (h2 : ∀ a, T1 a → T a ∨ (∃ i, a ∈ fps i) ∨ H a = none) : Ext B H T fps H T1 fps :=
  ⟨h1, fun _ _ h _ => h, fun _ _ _ h => h, fun _ _ _ h => h, h2, fun _ _ h => .inl h, fun _ h => h⟩

theorem slot_set {e : Env} {i j : Nat} {s : Slot} (h : i < e.length) : slot (e.set i s) j = if j = i then s else slot e j := by
  unfold slot
  by_cases hj : j = i
  · subst hj; rw [if_pos rfl, List.getElem?_set_self h]; rfl
  · rw [if_neg hj, List.getElem?_set_ne (Ne.symm hj)]
theorem slot_out {e : Env} {i : Nat} (h : ¬ i < e.length) : slot e i = .u := by
  unfold slot
  rw [List.getElem?_eq_none (by omega)]; rfl
theorem set_out {α : Type} {e : List α} {i : Nat} {s : α} (h : ¬ i < e.length) : e.set i s = e := List.set_eq_of_length_le (by omega)
/-- fps with another set of places at i -/
def fpSet (fps : Nat → List Addr) (i : Nat) (fp : List Addr) : Nat → List Addr := fun j => if j = i then fp else fps j
theorem fpSet_same {i : Nat} {fp : List Addr} : fpSet fps i fp i = fp := if_pos rfl
theorem fpSet_ne {i j : Nat} {fp : List Addr} (h : j ≠ i) : fpSet fps i fp j = fps j := if_neg h
/-- one slot is another now; fp: what it owns -/
theorem Fm.set {i : Nat} {s : Slot} {fp : List Addr} {σ' : L2.St} (f : Fm K H T B fps σ e) (hi : i < e.length) (hl : σ'.length = σ.length) (hσ : ∀ j, j ≠ i → σ'[j]? = σ[j]?) (hs : SR K H T B (σ'[i]?) s fp)
    (nd : fp.Nodup) (nT : ∀ a ∈ fp, ¬ T a) (nB : ∀ a ∈ fp, ¬ B a) (dj : ∀ a ∈ fp, ∀ j, j ≠ i → a ∉ fps j) : Fm K H T B (fpSet fps i fp) σ' (e.set i s) := by
  refine ⟨by rw [hl, f.len, List.length_set], fun j => ?_, fun j => ?_, fun j k a h1 h2 => ?_, fun j a h => ?_, fun j a h => ?_, f.td, f.bd⟩
  · rw [slot_set hi]
    by_cases hj : j = i
    · subst hj; rw [if_pos rfl, fpSet_same]; exact hs
    · rw [if_neg hj, fpSet_ne hj, hσ j hj]; exact f.sl j
  · by_cases hj : j = i
    · subst hj; rw [fpSet_same]; exact nd
    · rw [fpSet_ne hj]; exact f.nd j
  · by_cases hj : j = i
    · subst hj
      rw [fpSet_same] at h1
      by_cases hk : k = j
      · exact hk.symm
      · rw [fpSet_ne hk] at h2; exact absurd h2 (dj a h1 k hk)
    · rw [fpSet_ne hj] at h1
      by_cases hk : k = i
      · subst hk; rw [fpSet_same] at h2; exact absurd h1 (dj a h2 j hj)
      · rw [fpSet_ne hk] at h2; exact f.dj j k a h1 h2
  · by_cases hj : j = i
    · subst hj; rw [fpSet_same] at h; exact nT a h
    · rw [fpSet_ne hj] at h; exact f.dT j a h
  · by_cases hj : j = i
    · subst hj; rw [fpSet_same] at h; exact nB a h
    · rw [fpSet_ne hj] at h; exact f.dB j a h
theorem Fm.lt_of (f : Fm K H T B fps σ e) {i : Nat} (h : slot e i ≠ .u) : i < e.length := by
  by_cases q : i < e.length
  · exact q
  · exact absurd (slot_out q) h
/-- .. the state with some places let go, or taken by a slot anew -/
theorem Ext.own {i : Nat} {fp : List Addr} (h : ∀ a ∈ fp, a ∈ fps i ∨ H a = none) : Ext B H T fps H T (fpSet fps i fp) :=
  ⟨fun _ h => h, fun _ _ h _ => h, fun _ _ _ h => h, fun _ _ _ h => h, fun _ h => .inl h, fun a j q => by
    by_cases hj : j = i
    · subst hj; rw [fpSet_same] at q; exact h a q
    · rw [fpSet_ne hj] at q; exact .inl q, fun _ h => h⟩
end
end MP
end

section
set_option autoImplicit false
set_option linter.all false
set_option maxRecDepth 100000
/-! Readings: what an expression's answer in Mini asks of the hand layer. -/
namespace MP
open PySem PySem.Spec PyProof.Rows L2

def OutOk {α : Type} (o : Out α) (P : α → Env → Prop) (E : Exn → Env → Prop) : Prop := match o with
  | .ok a e => P a e
  | .exc x e => E x e
  | .bad => False
theorem OutOk.bind {α β : Type} {o : Out α} {f : α → Env → Out β} {P : β → Env → Prop} {E : Exn → Env → Prop} (h : OutOk (o.bind f) P E) : OutOk o (fun a e => OutOk (f a e) P E) E := by
  cases o <;> exact h
theorem OutOk.of_lift {α : Type} {e : Env} {x : Option α} {P : α → Env → Prop} {E : Exn → Env → Prop} (h : OutOk (lift e x) P E) : ∃ a, x = some a ∧ P a e := by
  cases x with
  | none => exact h.elim
  | some a => exact ⟨a, rfl, h⟩
theorem OutOk.mono {α : Type} {o : Out α} {P P' : α → Env → Prop} {E E' : Exn → Env → Prop} (h : OutOk o P E) (hp : ∀ a e, P a e → P' a e) (he : ∀ x e, E x e → E' x e) : OutOk o P' E' := by
  cases o with
  | ok a e => exact hp a e h
  | exc x e => exact he x e h
  | bad => exact h

/-- what is asked of an exception of Mini's, in the heap -/
abbrev XRel := Exn → Value → Option Addr → Hp → Prop

section
variable (K : PySem.W.Frag) (XR : XRel) (W : WX)
/-- an exception has come -/
def eArm (B : Addr → Prop) (H : Hp) (T : Addr → Prop) (fps : Nat → List Addr) (σ : L2.St) (x : Exn) (e' : Env) : Prop :=
  ∀ H' T' fps', Ext B H T fps H' T' fps' → Fm K H' T' B fps' σ e' → ∀ cls d, XR x cls d H' → W cls d σ H'
/-- an answer has come -/
structure Ps (B : Addr → Prop) (H : Hp) (T : Addr → Prop) (fps : Nat → List Addr) (σ : L2.St) (r : R) (e' : Env) (v : V) (H' : Hp) (T' : Addr → Prop) (fps' : Nat → List Addr) (fp : List Addr) : Prop where
  ext : Ext B H T fps H' T' fps'
  fm : Fm K H' T' B fps' σ e'
  rr : RR K H' T' B v r fp
  nd : fp.Nodup
  nw : ∀ a ∈ fp, H a = none ∧ ¬ T' a ∧ (∀ i, a ∉ fps' i) ∧ ¬ B a
def rdE (o : Env → Out R) : TE := fun σ H Q => ∃ T B fps e, Fm K H T B fps σ e ∧ OutOk (o e) (fun r e' => ∀ v H' T' fps' fp, Ps K B H T fps σ r e' v H' T' fps' fp → Q v H') (eArm K XR W B H T fps σ)
def rdV (o : Env → Out D) : TE := fun σ H Q => ∃ T B fps e, Fm K H T B fps σ e ∧ OutOk (o e) (fun d e' => ∀ v H' T' fps', Ext B H T fps H' T' fps' → Fm K H' T' B fps' σ e' → Rp K H' T' v d → Q v H') (eArm K XR W B H T fps σ)
def rdI (o : Env → Out Int) : TE := fun σ H Q => ∃ T B fps e, Fm K H T B fps σ e ∧ OutOk (o e) (fun i e' => ∀ H' T' fps', Ext B H T fps H' T' fps' → Fm K H' T' B fps' σ e' → Q (.int i) H') (eArm K XR W B H T fps σ)
def rdT (o : Env → Out Bool) : TT := fun σ H Q => ∃ T B fps e, Fm K H T B fps σ e ∧ OutOk (o e) (fun b e' => ∀ H' T' fps', Ext B H T fps H' T' fps' → Fm K H' T' B fps' σ e' → Q b H') (eArm K XR W B H T fps σ)
end
section
variable {K : PySem.W.Frag} {XR : XRel} {W : WX} {B T T1 : Addr → Prop} {H H1 : Hp} {fps fps1 : Nat → List Addr} {σ : L2.St} {e e1 : Env}
theorem eArm.trans {x : Exn} {e' : Env} (h : eArm K XR W B H T fps σ x e') (a : Ext B H T fps H1 T1 fps1) : eArm K XR W B H1 T1 fps1 σ x e' :=
  fun H' T' fps' b f cls d r => h H' T' fps' (a.trans b) f cls d r
theorem Ext.back (a : Ext B H T fps H1 T1 fps1) {p : Addr} (h : H1 p = none) : H p = none := by
  cases q : H p with
  | none => rfl
  | some o => exact absurd h (a.dm p (by rw [q]; simp))
theorem Ps.trans {r : R} {e' : Env} {v : V} {H' : Hp} {T' : Addr → Prop} {fps' : Nat → List Addr} {fp : List Addr} (a : Ext B H T fps H1 T1 fps1) (p : Ps K B H1 T1 fps1 σ r e' v H' T' fps' fp) : Ps K B H T fps σ r e' v H' T' fps' fp :=
  ⟨a.trans p.ext, p.fm, p.rr, p.nd, fun x hx => ⟨a.back (p.nw x hx).1, (p.nw x hx).2⟩⟩
theorem Ps.st {d : D} {e' : Env} {v : V} {H' : Hp} {T' : Addr → Prop} {fps' : Nat → List Addr} (x : Ext B H T fps H' T' fps') (f : Fm K H' T' B fps' σ e') (r : Rp K H' T' v d) : Ps K B H T fps σ (.st d) e' v H' T' fps' [] :=
  ⟨x, f, ⟨rfl, r⟩, List.nodup_nil, fun _ h => nomatch h⟩
/-- an answer is kept as a value: its own places are values' from now on -/
theorem Ps.freeze {r : R} {d : D} {e' : Env} {v : V} {H' : Hp} {T' : Addr → Prop} {fps' : Nat → List Addr} {fp : List Addr} (p : Ps K B H T fps σ r e' v H' T' fps' fp) (hv : r.val = some d) :
    ∃ T2, Ext B H T fps H' T2 fps' ∧ Fm K H' T2 B fps' σ e' ∧ Rp K H' T2 v d := by
  cases r with
  | st d' =>
    cases hv
    exact ⟨T', p.ext, p.fm, p.rr.2⟩
  | fr xs =>
    cases hv
    obtain ⟨a, vs, rfl, rfl, h1, h2⟩ := p.rr
    have q := p.nw a List.mem_cons_self
    refine ⟨fun b => T' b ∨ b = a, { p.ext with t := fun b h => .inl (p.ext.t b h), nT := fun b hb => ?_ }, p.fm.grow (fun _ h => .inl h) (fun i b hb z => ?_) (fun b hb => ?_), .lst (.inl ⟨.inr rfl, .inl h1⟩) (h2.keep (.refl fun _ h => .inl h))⟩
    · rcases hb with z | z
      · exact p.ext.nT b z
      · subst z; exact .inr (.inr q.1)
    · rcases z with z | z
      · exact p.fm.dT i b hb z
      · subst z; exact q.2.2.1 i hb
    · rcases hb with z | z
      · exact p.fm.td b z
      · subst z; rw [h1]; simp
  | own xs => cases hv
  | own2 xss => cases hv
  | bor d' =>
    simp only [R.val] at hv
    by_cases hi : immut d' = true
    · rw [if_pos hi] at hv
      cases hv
      exact ⟨T', p.ext, p.fm, p.rr.2.immut hi⟩
    · rw [if_neg hi] at hv; cases hv
/-- the reading says more than is asked -/
theorem PE.imp {X : Cx} {x : Expr} {t t' : TE} (h : PE X x t) (hi : ∀ σ H Q, t' σ H Q → t σ H Q) : PE X x t' := ⟨fun pins s σ H Q I hw => h.run pins s σ H Q I (hi σ H Q hw)⟩
theorem PT.imp {X : Cx} {x : Expr} {t t' : TT} (h : PT X x t) (hi : ∀ σ H Q, t' σ H Q → t σ H Q) : PT X x t' := ⟨fun pins s σ H Q I hw => h.run pins s σ H Q I (hi σ H Q hw)⟩
theorem rdV_of {o : Env → Out R} {σ : L2.St} {H : Hp} {Q : VK} (h : rdV K XR W (fun e => valOf (o e)) σ H Q) : rdE K XR W o σ H Q := by
  obtain ⟨T, B, fps, e, f, h⟩ := h
  refine ⟨T, B, fps, e, f, (OutOk.bind h).mono (fun r e' q v H' T' fps' fp p => ?_) fun _ _ q => q⟩
  obtain ⟨d, hd, q⟩ := q.of_lift
  obtain ⟨T2, x, f', rp⟩ := p.freeze hd
  exact q v H' T2 fps' x f' rp
theorem rdI_of {o : Env → Out R} {σ : L2.St} {H : Hp} {Q : VK} (h : rdI K XR W (fun e => intOf (o e)) σ H Q) : rdE K XR W o σ H Q := by
  obtain ⟨T, B, fps, e, f, h⟩ := h
  refine rdV_of ⟨T, B, fps, e, f, (OutOk.bind h).mono (fun d e' q v H' T' fps' x f' rp => ?_) fun _ _ q => q⟩
  obtain ⟨i, hi, q⟩ := q.of_lift
  cases d with
  | int j =>
    cases hi
    cases rp
    exact q H' T' fps' x f'
  | _ => cases hi
theorem Rp.tru {v : V} {d : D} {kl : Prop} {b : Bool} (h : Rq K H T kl v d) (e : truthy d = some b) : TruV K v H b := by
  cases h with
  | non => cases e; rfl
  | bl c => cases e; rfl
  | int i => cases e; rfl
  | str x =>
    simp only [truthy] at e
    split at e
    · rename_i hx
      cases e
      refine ⟨hx, ?_⟩
      rw [Bool.eq_iff_iff, bne_iff_ne, bne_iff_ne]
      omega
    · cases e
  | lst hs ha =>
    cases e
    refine .inl ⟨_, hs.imp And.right And.right, ?_⟩
    cases ha <;> rfl
  | tup hs ha =>
    cases e
    refine .inr (.inl ⟨_, hs.sq, ?_⟩)
    cases ha <;> rfl
theorem RR.tru {v : V} {r : R} {b : Bool} {fp : List Addr} (h : RR K H T B v r fp) (e : truthy r.d = some b) : TruV K v H b := by
  cases r with
  | st d => exact Rp.tru h.2 e
  | bor d => exact Rp.tru h.2 e
  | fr xs =>
    obtain ⟨a, vs, rfl, _, h1, h2⟩ := h
    cases e
    refine .inl ⟨vs, .inl (.inl h1), ?_⟩
    cases h2 <;> rfl
  | own xs =>
    obtain ⟨_, a, vs, rfl, h1, h2⟩ := h
    cases e
    refine .inl ⟨vs, .inl (.inl h1), ?_⟩
    cases h2 <;> rfl
  | own2 xss =>
    obtain ⟨_, a, as, rfl, h1, h2⟩ := h
    cases e
    refine .inl ⟨_, .inl (.inl h1), ?_⟩
    cases h2 <;> rfl
theorem rdT_of {o : Env → Out R} {σ : L2.St} {H : Hp} {Q : Bool → Hp → Prop} (h : rdT K XR W (fun e => truthOf (o e)) σ H Q) : rdE K XR W o σ H fun x H1 => ∃ k, TruV K x H1 k ∧ Q k H1 := by
  obtain ⟨T, B, fps, e, f, h⟩ := h
  refine ⟨T, B, fps, e, f, (OutOk.bind h).mono (fun r e' q v H' T' fps' fp p => ?_) fun _ _ q => q⟩
  obtain ⟨b, hb, q⟩ := q.of_lift
  exact ⟨b, p.rr.tru hb, q H' T' fps' p.ext p.fm⟩
end
end MP
end

section
set_option autoImplicit false
set_option linter.all false
set_option maxRecDepth 100000
/-! Rules that the hand layer lacks: new tuples whose whole object is known, lists that may be frozen. -/
namespace MP
open PySem PySem.Spec PyProof.Rows L2

abbrev tupO (its : List Value) : Obj := tupN its.toArray 0
theorem Inv.laidT {X : Cx} {pins : List (Addr × Obj)} {σ : L2.St} {H : Hp} {s : Shared} {xs : List V} {its : List Value} {t : Nat} (I : Inv X pins σ H s) (r : Vals xs its) (hz : xs.length ≤ sizeLine) :
    Inv X pins σ (upd H s.heap.objs.size (.frz (tupO its) (.tup xs))) { s with heap := s.heap.push (tupO its), toks := t } :=
  I.laid (fun b u e => Heap.get?_push_of_some _ e) (Nat.le_refl _) ⟨Heap.get?_push_size _ rfl, hz, its, r, ⟨_, Heap.get?_push_size _ rfl, rfl, _, rfl⟩⟩
/-- a new tuple of xs -/
def NewT (xs : List V) (H : Hp) (Q : VK) : Prop := ∀ p its n, H p = none → Q (.ref p) (upd H p (.frz (tupN its n) (.tup xs)))
section
variable {X : Cx} {e : Expr} {es : List Expr} {te : TE} {t : TA} {pos : Pos} {ta : TE} {a : Expr}
def tTupF (t : TA) : TE := fun σ H Q => t σ H fun xs H1 => xs.length ≤ sizeLine ∧ NewT xs H1 Q
theorem pe_tupF {x1} (h : PA X es t) : PE X (.Tuple es x1 pos) (tTupF t) := by
  refine ⟨fun pins s σ H Q I hq => ?_⟩
  refine wpAny_Tuple_spliced (thn (h.run pos pins s σ H _ I hq) fun us s1 ⟨xs, H1, I1, r, z, q⟩ => ⟨by rw [← r.length]; exact z, ?_⟩)
  exact ⟨.ref _, _, Inv.laidT (t := s1.toks) I1 r z, rfl, q _ _ _ (I1.hok.fresh (Nat.le_refl _))⟩
theorem call_tupleF : CallR X (.type "tuple") (fun xs H Q => ∃ p ys, xs = [.ref p] ∧ ((SqL X.K H p ys ∧ NewT ys H Q) ∨ (SqT X.K H p ys ∧ Q (.ref p) H))) := by
  intro pins s σ H xs us Q I r h
  obtain ⟨p, ys, rfl, h⟩ := h
  obtain ⟨u, rfl, rx⟩ := vals1 r
  cases rx
  rcases h with ⟨hq, q⟩ | ⟨hq, q⟩
  · obtain ⟨its, r', pl, hz⟩ := I.list hq
    have hlen := r'.length
    refine call_tuple_list pl.isList (fun h' kp => ?_) (by simp only [List.size_toArray] <;> omega)
    have I1 : Inv X pins σ H { s with heap := h' } := I.kept (t' := s.toks) kp
    exact ⟨.ref h'.objs.size, _, Inv.laidT (s := { s with heap := h' }) (t := s.toks) I1 r' hz, rfl, q _ _ _ (I1.hok.fresh (Nat.le_refl _))⟩
  · obtain ⟨its, r', pl, hz⟩ := I.tuple hq
    exact call_tuple_same pl ⟨.ref p, H, I, rfl, q⟩
def tTupRgF (te : L2.St → Hp → (Int → Int → Hp → Prop) → Prop) : TE := fun σ H Q => te σ H fun a b H1 => RgOk a b ∧ NewT (rgV a b) H1 Q
theorem pe_tupRgF {te : L2.St → Hp → (Int → Int → Hp → Prop) → Prop} {p pos : Pos} (hc : X.calm = true) (hg : Gl X "tuple") (hm : X.mg "tuple" = none) (he : PRg X e te) (na : starEach [e] X.env = (false, eval e X.env) :: starEach [] X.env := by rfl) : PE X (.Call (.Name "tuple" p) [e] [] pos) (tTupRgF te) := by
  refine ⟨fun pins s σ H Q I h => ?_⟩
  refine Call_ (ld_blt I hg hm boot_tuple (PyProof.Rows.callWith_type1 (args_cons (thn (he pins s σ H _ I h) fun x s1 ⟨r, a, b, t, u, v, H1, ex, hr, I1, ok, q⟩ => args_nil ?_) na) na))
  subst ex
  obtain ⟨b1, b2, b3, b4, b5⟩ := ok
  refine call_tuple_range (n := (b - a).toNat) (I1.ok.hd hc) hr (small_one b1 b2 b3 b4) (rangeSize_nat a b) b5 fun h' tk acc hk hi => ?_
  have I2 : Inv X pins σ H1 { s1 with heap := h', toks := tk } := I1.kept hk
  have hl : (rgV a b).length ≤ sizeLine := by rw [rgV_length, sizeLine_eq]; omega
  have I3 := Inv.laidT (t := tk) I2 (vals_rg hi) hl
  rw [show (tupO acc.toList) = { cls := .type "tuple", data := .seq acc } from by simp [tupO]] at I3
  exact ⟨.ref h'.objs.size, _, I3, rfl, q _ _ _ (I2.hok.fresh (Nat.le_refl _))⟩
/-- t + u -/
def rCatF (K : PySem.W.Frag) : R2 := fun x y H Q => ∃ a b xs ys, x = .ref a ∧ y = .ref b ∧ SqT K H a xs ∧ SqT K H b ys ∧ xs.length + ys.length ≤ sizeLine ∧
  (xs = [] → Q (.ref b) H) ∧ (xs ≠ [] → ys = [] → Q (.ref a) H) ∧ (xs ≠ [] → ys ≠ [] → NewT (xs ++ ys) H Q)
theorem op_catF : OpR X (binaryOp .Add) (rCatF X.K) := by
  intro pins s σ H x y v u Q I rx ry h
  obtain ⟨a, b, xs, ys, rfl, rfl, ha, hb, hz, q0, q1, q2⟩ := h
  cases rx
  cases ry
  obtain ⟨its, r1, p1, _⟩ := I.tuple ha
  obtain ⟨its2, r2, p2, _⟩ := I.tuple hb
  by_cases hx : xs = []
  · subst hx
    cases r1
    exact cat_tup0 p1 p2 ⟨.ref b, H, I, rfl, q0 rfl⟩
  · refine HT.cat_tup p1 p2 (fun e => hx (r1.nil_iff.mp e)) (fun e => ⟨.ref a, H, I, rfl, q1 hx (r2.nil_iff.mp e)⟩) (fun e => ?_) (by rw [← r1.length, ← r2.length]; exact hz)
    exact ⟨.ref _, _, Inv.laidT (t := s.toks) I (r1.append r2) (by rw [List.length_append]; exact hz), rfl, q2 hx (fun z => e (r2.nil_iff.mpr z)) _ _ _ (I.hok.fresh (Nat.le_refl _))⟩
/-- t * n -/
def rRepF (K : PySem.W.Frag) : R2 := fun x y H Q => ∃ l k xs, x = .ref l ∧ y = .int k ∧ SqT K H l xs ∧ xs ≠ [] ∧ 1 ≤ k ∧ k ≤ 1000 ∧ xs.length ≤ 1000 ∧ (k = 1 → Q (.ref l) H) ∧ (k ≠ 1 → NewT (List.replicate k.toNat xs).flatten H Q)
theorem tuple_mul1 (l : Addr) (items : Array Value) (n : Nat) (dd : Option Addr) (sl : Array (Option Value)) (u : Tok) :
    Meets (Builtin.«tuple.__mul__» ⟨[.ref l, .int 1 u], []⟩) (fun _ R s => s.heap.get? l = some { cls := .type "tuple", dict := dd, data := .seq items n, slots := sl } ∧ R (.ok (.ret (Value.ref l))) s) :=
  .of_wp fun prog w A R s h => by
    obtain ⟨hp, g, d, tk, os⟩ := s
    obtain ⟨hl, h⟩ := h
    have f1 := AutoSeq1.idx_int
    have c0 : (decide ((1 : Int) < -(2 ^ 63)) || decide ((1 : Int) ≥ 2 ^ 63)) = false := by decide
    have c1 : (items.isEmpty || (1 : Int) == 1) = true := by simp
    wp_walk using wpAny_loadPart' hl
    repeat (first
      | (refine wpAny_ite_false (decide_eq_false (by rw [c0]; exact Bool.false_ne_true)) ?_; wp_walk using wpAny_loadPart' hl)
      | (refine wpAny_ite_true (decide_eq_true (by rw [c1])) ?_; wp_walk using wpAny_loadPart' hl))
    exact ⟨_, rfl, h⟩
theorem op_repF : OpR X (binaryOp .Mult) (rRepF X.K) := by
  intro pins s σ H x y v u Q I rx ry h
  obtain ⟨l, k, xs, rfl, rfl, hT, hne, h1, h2, hz, q1, q2⟩ := h
  cases rx
  obtain ⟨t, rfl⟩ := ry
  obtain ⟨its, r, ⟨⟨cls, dd, data, sl⟩, ho, hc, n, hd⟩, hs⟩ := I.tuple hT
  simp only at hc hd
  subst hc hd
  have hle : its.length = xs.length := r.length.symm
  have hn : its ≠ [] := fun e => hne (by
    rw [e] at hle
    exact List.eq_nil_of_length_eq_zero hle.symm)
  have hi : its.toArray.isEmpty = false := by
    cases its with
    | nil => exact absurd rfl hn
    | cons a b => rfl
  by_cases hk : k = 1
  · subst hk
    exact wpAny_binaryOp_repeat_ref (T := "tuple") (U := "int") (by decide) ⟨_, ho, rfl⟩ (fun s' => typeIs_int s' 1 t) noFill_tuple_mul F.fills_int_mul F.slot_int_rmul repeat_tuple F.slot_int_index.lookup
      (call_meets F.slot_int_rmul (typeIs_int s 1 t) F.entry_int_rmul (F.args_int_rmul_2 _ _) (int_rmul_tuple 1 t l its.toArray n dd sl)
        ⟨ho, rfl, ⟨_, ho, rfl⟩, call_meets F.slot_tuple_mul ⟨_, ho, rfl⟩ F.entry_tuple_mul (F.args_tuple_mul_2 _ _) (tuple_mul1 l its.toArray n dd sl t) ⟨ho, ⟨.ref l, H, I, rfl, q1 rfl⟩⟩⟩)
  · have hsz0 : its.toArray.size = xs.length := by rw [List.size_toArray, hle]
    have hm : ((its.toArray.size : Nat) : Int) * k ≤ 1000000 := by
      rw [hsz0]
      have a1 : ((xs.length : Nat) : Int) * k ≤ 1000 * k := Int.mul_le_mul_of_nonneg_right (by omega) (by omega)
      omega
    have flen : (List.replicate k.toNat its).flatten.length ≤ sizeLine := by
      rw [PyProof.Rows.lm_len_rep_flat, hle, sizeLine_eq]
      have a1 : k.toNat * xs.length ≤ 1000 * 1000 := Nat.mul_le_mul (by omega) hz
      omega
    have c0 : (decide (k < -(2 ^ 63)) || decide (k ≥ 2 ^ 63)) = false := by
      rw [decide_eq_false (by omega), decide_eq_false (by omega)] <;> rfl
    have c1 : (its.toArray.isEmpty || k == 1) = false := by
      rw [hi, Bool.false_or]
      exact beq_eq_false_iff_ne.mpr (by omega)
    have c2 : (decide (k ≤ 0) || its.toArray.isEmpty) = false := by
      rw [hi, Bool.or_false]
      exact decide_eq_false (by omega)
    have c4 : Builtin.Tuple.tupleTooMany (((its.toArray.size : Nat) : Int) * k) = false := by
      unfold Builtin.Tuple.tupleTooMany
      rw [sizeLine_eq]
      exact decide_eq_false (by omega)
    refine wpAny_binaryOp_repeat_ref (T := "tuple") (U := "int") (by decide) ⟨_, ho, rfl⟩ (fun s' => typeIs_int s' k t) noFill_tuple_mul F.fills_int_mul F.slot_int_rmul repeat_tuple F.slot_int_index.lookup
      (call_meets F.slot_int_rmul (typeIs_int s k t) F.entry_int_rmul (F.args_int_rmul_2 _ _) (int_rmul_tuple k t l its.toArray n dd sl)
        ⟨ho, rfl, ⟨_, ho, rfl⟩, call_meets F.slot_tuple_mul ⟨_, ho, rfl⟩ F.entry_tuple_mul (F.args_tuple_mul_2 _ _) (tuple_mulW l its.toArray n dd sl k t c0 c1 c2 (by omega) c4 (by rw [size_rep, List.size_toArray]; exact flen)) ⟨ho, ?_⟩⟩)
    rw [size_rep]
    have lx : (List.replicate k.toNat xs).flatten.length ≤ sizeLine := by
      rw [PyProof.Rows.lm_len_rep_flat, sizeLine_eq]
      have a1 : k.toNat * xs.length ≤ 1000 * 1000 := Nat.mul_le_mul (by omega) hz
      omega
    exact ⟨.ref _, _, Inv.laidT (t := s.toks) I (r.rep k.toNat) lx, rfl, q2 hk _ _ _ (I.hok.fresh (Nat.le_refl _))⟩
/-- t[lo:hi] -/
def rSlF (K : PySem.W.Frag) : V → Option Int → Option Int → Hp → VK → Prop := fun x lo hi H Q => ∃ a xs, x = .ref a ∧ SqT K H a xs ∧
  (cutV xs lo hi = xs → Q (.ref a) H) ∧ NewT (cutV xs lo hi) H Q
theorem cutV_whole {xs : List V} {lo hi : Option Int} (h : HT.sIx xs.length 0 lo = 0 ∧ HT.sIx xs.length xs.length hi = xs.length) : cutV xs lo hi = xs := by
  unfold cutV
  rw [h.1, h.2, List.drop_zero, Nat.sub_zero, List.take_of_length_le (Nat.le_refl _)]
theorem sl_tupF : SlR X (rSlF X.K) := by
  intro pins s σ H x v vl vu lo hi sl Q I rx hs pl pu h
  obtain ⟨a, xs, rfl, hx, q1, q2⟩ := h
  cases rx
  obtain ⟨its, r, ht, hz⟩ := I.tuple hx
  have hlen : its.toArray.size = xs.length := by rw [List.size_toArray]; exact r.length.symm
  refine ⟨"tuple", _, PyProof.Rows.slot_tuple_getitem.lookup, ht.typeIs, ?_⟩
  by_cases hw : HT.sIx xs.length 0 lo = 0 ∧ HT.sIx xs.length xs.length hi = xs.length
  · exact getItem_tuple_whole ht hs pl pu (by rw [hlen]; exact hw) ⟨.ref a, H, I, rfl, q1 (cutV_whole hw)⟩
  · refine HT.getItem_tuple_cut ht hs pl pu (by rw [hlen]; exact hw) ?_ (by rw [hlen]; exact hz)
    rw [hlen]
    exact ⟨.ref _, _, Inv.laidT (t := s.toks) I ((r.drop (HT.sIx xs.length 0 lo)).take (HT.sIx xs.length xs.length hi - HT.sIx xs.length 0 lo)) (Nat.le_trans (cutV_length xs lo hi) hz), rfl, q2 _ _ _ (I.hok.fresh (Nat.le_refl _))⟩

/-! ### lists -/
theorem Inv.lstR {pins : List (Addr × Obj)} {σ : L2.St} {H : Hp} {s : Shared} {l : Addr} {xs : List V} (I : Inv X pins σ H s) (hH : Rd H l (.lst xs)) : xs.length ≤ sizeLine ∧ ∃ (its : List Value) (n : Nat), Vals xs its ∧ xs.length = its.length ∧ s.heap.get? l = some { cls := .type "list", data := .seq its.toArray n } := by
  obtain ⟨z, its, n, r, e⟩ := hH.ok I.hok
  exact ⟨z, its, n, r, r.length, e⟩
/-- a new list of xs -/
def NewL (xs : List V) (H : Hp) (Q : VK) : Prop := ∀ p, H p = none → Q (.ref p) (upd H p (.lst xs))
def rCatL : R2 := fun x y H Q => ∃ l b xs zs, x = .ref l ∧ y = .ref b ∧ Rd H l (.lst xs) ∧ Rd H b (.lst zs) ∧ xs.length + zs.length ≤ sizeLine ∧ NewL (xs ++ zs) H Q
theorem op_catL : OpR X (binaryOp .Add) rCatL := by
  intro pins s σ H x y v u Q I rx ry h
  obtain ⟨l, b, xs, zs, rfl, rfl, hH, hB, hz, q⟩ := h
  cases rx
  cases ry
  obtain ⟨z, its, n, r, hl, e⟩ := Inv.lstR I hH
  obtain ⟨z2, its2, n2, r2, hl2, e2⟩ := Inv.lstR I hB
  refine PySem.P.add_list e e2 ?_ (by rw [List.size_toArray, List.size_toArray]; omega)
  have ea : its.toArray ++ its2.toArray = (its ++ its2).toArray := by simp
  rw [ea]
  exact ⟨.ref _, _, I.lnew (t' := s.toks) (r.append r2) (by rw [List.length_append]; omega), rfl, q _ I.fresh⟩
def rRepL : R2 := fun x y H Q => ∃ l k xs, x = .ref l ∧ y = .int k ∧ Rd H l (.lst xs) ∧ -(2 ^ 63) ≤ k ∧ k < 2 ^ 63 ∧ xs.length * k.toNat ≤ sizeLine ∧ NewL (List.replicate k.toNat xs).flatten H Q
theorem op_repL : OpR X (binaryOp .Mult) rRepL := by
  intro pins s σ H x y v u Q I rx ry h
  obtain ⟨l, k, xs, rfl, rfl, hH, h1, h2, hz, q⟩ := h
  cases rx
  obtain ⟨t, rfl⟩ := ry
  obtain ⟨z, its, n, r, hl, e⟩ := Inv.lstR I hH
  have hlen : its.toArray.size * k.toNat ≤ sizeLine := by rw [List.size_toArray, ← hl]; exact hz
  have hcap : ¬ its.toArray.size * k.toNat > (2 ^ 63 - 1) / 8 := by
    have : (sizeLine : Nat) ≤ (2 ^ 63 - 1) / 8 := by decide
    omega
  have hfit : ¬ (!Builtin.List.listFitsIndex k) = true := by
    rw [fitsIndex_both h1 h2]
    exact Bool.false_ne_true
  have hlong : ¬ Builtin.List.listTooLong (its.toArray.size * k.toNat) = true := by
    rw [notLongL hlen]
    exact Bool.false_ne_true
  have hnew : List.foldl (fun x1 x2 => x1 ++ x2) #[] (List.replicate (if its.toArray.isEmpty = true then 0 else k.toNat) its.toArray) = (List.replicate k.toNat its).flatten.toArray := by
    have f0 : ∀ m : Nat, List.foldl (fun x1 x2 => x1 ++ x2) #[] (List.replicate m its.toArray) = (List.replicate m its).flatten.toArray := fun m => by
      have := foldl_rep its m []
      rw [List.nil_append] at this
      exact this
    rw [f0]
    cases its with
    | nil => simp
    | cons a r' => rw [if_neg (by simp)]
  refine wpAny_binaryOp_repeat_ref (T := "list") (U := "int") (by decide) ⟨_, e, rfl⟩ (fun s' => typeIs_int s' k t) noFill_list_mul F.fills_int_mul F.slot_int_rmul repeat_list F.slot_int_index.lookup
    (call_meets F.slot_int_rmul (typeIs_int s k t) F.entry_int_rmul (F.args_int_rmul_2 _ _) (int___rmul___int_list k t l its.toArray n)
      ⟨e, rfl, ⟨_, e, rfl⟩, call_meets F.slot_list_mul ⟨_, e, rfl⟩ F.entry_list_mul (F.args_list_mul_2 _ _) (AutoListH.list___mul___list_int_3 l its.toArray n k t hfit hcap hlong) ⟨e, ?_⟩⟩)
  rw [hnew]
  exact ⟨.ref _, _, I.lnew (t' := s.toks) (r.rep k.toNat) (by rw [PyProof.Rows.lm_len_rep_flat, Nat.mul_comm]; exact hz), rfl, q _ I.fresh⟩
/-- a tuple's whole object -/
theorem Inv.tupleF {pins : List (Addr × Obj)} {σ : L2.St} {H : Hp} {s : Shared} {l : Addr} {xs : List V} (I : Inv X pins σ H s) (h : SqF X.K H l xs) : xs.length ≤ sizeLine ∧ ∃ its n, Vals xs its ∧ s.heap.get? l = some (tupN its.toArray n) := by
  rcases h with ⟨its, n, h⟩ | ⟨its, n, h, hz, hv⟩
  · obtain ⟨e, z, its', r, ⟨o, e', _, n', d⟩⟩ := I.hok l _ h
    rw [e] at e'
    cases e'
    cases d
    exact ⟨z, its', _, r, e⟩
  · refine ⟨by rw [hv.length, Array.length_toList]; exact hz, its.toList, n, hv, ?_⟩
    rw [Array.toArray_toList]
    exact I.kIn _ _ h
/-- xs.extend(t), t a tuple -/
def rExtT (K : PySem.W.Frag) : V → List V → Hp → VK → Prop := fun x vs H Q => ∃ l b xs zs, x = .ref l ∧ vs = [.ref b] ∧ H l = some (.lst xs) ∧ SqF K H b zs ∧ xs.length + zs.length ≤ sizeLine ∧ Q .non (upd H l (.lst (xs ++ zs)))
theorem mt_extT : MtM X "list.extend" (rExtT X.K) := by
  intro pins s σ H x vs v us Q I rx rv h
  obtain ⟨l, b, xs, zs, rfl, rfl, hH, hB, hz, q⟩ := h
  cases rx
  obtain ⟨u, rfl, ru⟩ := rv.one
  cases ru
  obtain ⟨z, its, n, r, hl, e⟩ := I.lstM hH
  obtain ⟨z2, its2, n2, r2, e2⟩ := Inv.tupleF I hB
  have hl2 := r2.length
  have hsz : its.toArray.size + its2.toArray.size ≤ sizeLine := by rw [List.size_toArray, List.size_toArray]; omega
  have hlong : ¬ (!its.toArray.isEmpty && Builtin.List.listTooLong (its.toArray.size + its2.toArray.size)) = true := by
    rw [notLongL hsz, Bool.and_false]
    exact Bool.false_ne_true
  refine call_meets F.slot_list_extend ⟨_, e, rfl⟩ F.entry_list_extend (F.args_list_extend_2 _ _)
    (AutoSeq1.list_extend_list_tuple_0 l its.toArray n b its2.toArray n2 hlong (by rw [List.size_toArray]; omega) (by omega)) ⟨e, e2, ?_⟩
  refine ⟨.non, _, I.lset (its' := its ++ its2) hH e (by simp) (r.append r2) ?_, rfl, q⟩
  rw [List.length_append]
  omega
/-- xs.extend(ys), ys perhaps frozen -/
def rExtL : V → List V → Hp → VK → Prop := fun x vs H Q => ∃ l b xs zs, x = .ref l ∧ vs = [.ref b] ∧ H l = some (.lst xs) ∧ Rd H b (.lst zs) ∧ xs.length + zs.length ≤ sizeLine ∧ Q .non (upd H l (.lst (xs ++ zs)))
theorem mt_extL : MtM X "list.extend" rExtL := by
  intro pins s σ H x vs v us Q I rx rv h
  obtain ⟨l, b, xs, zs, rfl, rfl, hH, hB, hz, q⟩ := h
  cases rx
  obtain ⟨u, rfl, ru⟩ := rv.one
  cases ru
  obtain ⟨z, its, n, r, hl, e⟩ := I.lstM hH
  obtain ⟨z2, its2, n2, r2, hl2, e2⟩ := Inv.lstR I hB
  have hsz : its.toArray.size + its2.toArray.size ≤ sizeLine := by rw [List.size_toArray, List.size_toArray]; omega
  have hlong : ¬ (!its.toArray.isEmpty && Builtin.List.listTooLong (its.toArray.size + its2.toArray.size)) = true := by
    rw [notLongL hsz, Bool.and_false]
    exact Bool.false_ne_true
  refine call_meets F.slot_list_extend ⟨_, e, rfl⟩ F.entry_list_extend (F.args_list_extend_2 _ _)
    (AutoSeq1.list_extend_list_list_0 l its.toArray n b its2.toArray n2 hlong (by rw [List.size_toArray]; omega) (by omega)) ⟨e, e2, ?_⟩
  refine ⟨.non, _, I.lset (its' := its ++ its2) hH e (by simp) (r.append r2) ?_, rfl, q⟩
  rw [List.length_append]
  omega
end
end MP
end

section
set_option autoImplicit false
set_option linter.all false
set_option maxRecDepth 100000
/-! Operators and built-ins over data. -/
namespace MP
open PySem PySem.Spec PyProof.Rows L2

section
variable {K : PySem.W.Frag} {H : Hp}
mutual
theorem Dp.plain : ∀ {d : D} {v : V}, Dp K H v d → d.plain = true
  | .none, _, _ => rfl
  | .bool _, _, _ => rfl
  | .int _, _, _ => rfl
  | .str _, _, _ => rfl
  | .list xs, _, h => by
    cases h with
    | lst _ ha => exact (show PyData.plainAll xs = true from DpAll.plain ha)
  | .tuple xs, _, h => by
    cases h with
    | tup _ ha => exact (show PyData.plainAll xs = true from DpAll.plain ha)
  | .dict _, _, h => by cases h
theorem DpAll.plain : ∀ {ds : List D} {vs : List V}, DpAll K H vs ds → PyData.plainAll ds = true
  | [], _, _ => rfl
  | d :: ds, _, h => by
    cases h with
    | cons h1 h2 => rw [PyData.plainAll, Dp.plain h1, DpAll.plain h2]; rfl
end
variable {T B : Addr → Prop}
theorem OwnAll.dp : ∀ {as : List Addr} {xss : List (List D)}, OwnAll K H T as xss → DpAll K H (as.map V.ref) (xss.map PyData.list)
  | _, _, .nil => .nil
  | _, _, .cons h r t => .cons (.lst (.inl (.inl h)) r.dp) (OwnAll.dp t)
theorem RR.dp {v : V} {r : R} {fp : List Addr} (h : RR K H T B v r fp) : Dp K H v r.d := by
  cases r with
  | st d => exact h.2.dp
  | bor d => exact h.2.dp
  | fr xs => obtain ⟨a, vs, rfl, _, h1, h2⟩ := h; exact .lst (.inl (.inl h1)) h2.dp
  | own xs => obtain ⟨_, a, vs, rfl, h1, h2⟩ := h; exact .lst (.inl (.inl h1)) h2.dp
  | own2 xss => obtain ⟨_, a, as, rfl, h1, h2⟩ := h; exact .lst (.inl (.inl h1)) h2.dp
end

def copOf : COp → CmpOp
  | .eq => .Eq | .ne => .NotEq | .lt => .Lt | .le => .LtE | .gt => .Gt | .ge => .GtE | .isN => .Is | .notN => .IsNot | .isIn => .In | .notIn => .NotIn
section
variable {X : Cx}
theorem shallow_room {A : Around} {a b : D} (h : shallow a b = true) (hu : A.units + 66 < cLine) : A.units + min a.depth b.depth < cLine := by
  unfold shallow at h
  rw [Bool.or_eq_true, decide_eq_true_eq, decide_eq_true_eq] at h
  omega
theorem ordered_of {a b : D} (h : ordered a b = true) : W.alike a b = true ∧ a ≠ .none ∧ shallow a b = true := by
  unfold ordered at h
  rw [Bool.and_eq_true, Bool.and_eq_true] at h
  refine ⟨h.1.1, fun e => ?_, h.2⟩
  have := h.1.2
  rw [e] at this
  cases this
theorem some_if {α : Type} {c : Bool} {x y : α} (h : (if c = true then some x else none) = some y) : c = true ∧ x = y := by
  cases c with
  | true => exact ⟨rfl, Option.some.inj h⟩
  | false => cases h
theorem cmp_ints {p : COp} {d e : D} {f : Int → Int → Bool} {g : D → D → Bool} {k : Bool} (h1 : ∀ i j, cmp p (.int i) (.int j) = some (f i j)) (h2 : (∀ i j, ¬ (d = .int i ∧ e = .int j)) → cmp p d e = if ordered d e then some (g d e) else none)
    (h3 : ∀ i j, f i j = g (.int i) (.int j)) (h : cmp p d e = some k) : W.alike d e = true ∧ d ≠ .none ∧ shallow d e = true ∧ k = g d e := by
  by_cases hii : ∃ i j, d = .int i ∧ e = .int j
  · obtain ⟨i, j, rfl, rfl⟩ := hii
    rw [h1] at h
    refine ⟨rfl, (fun z => nomatch z), rfl, ?_⟩
    rw [← h3]
    exact (Option.some.inj h).symm
  · rw [h2 fun i j z => hii ⟨i, j, z⟩] at h
    obtain ⟨ho, ek⟩ := some_if h
    obtain ⟨a, b, c⟩ := ordered_of ho
    exact ⟨a, b, c, ek.symm⟩
theorem cmp_lt {d e : D} {k : Bool} (h : cmp .lt d e = some k) : W.alike d e = true ∧ d ≠ .none ∧ shallow d e = true ∧ k = W.dataLt d e :=
  cmp_ints (f := fun i j => decide (i < j)) (g := W.dataLt) (fun _ _ => rfl) (fun z => by cases d <;> first | rfl | (cases e <;> first | rfl | exact absurd ⟨rfl, rfl⟩ (z _ _))) (fun i j => (W.dataLt_int i j).symm) h
theorem cmp_le {d e : D} {k : Bool} (h : cmp .le d e = some k) : W.alike d e = true ∧ d ≠ .none ∧ shallow d e = true ∧ k = !W.dataLt e d :=
  cmp_ints (f := fun i j => decide (i ≤ j)) (g := fun a b => !W.dataLt b a) (fun _ _ => rfl) (fun z => by cases d <;> first | rfl | (cases e <;> first | rfl | exact absurd ⟨rfl, rfl⟩ (z _ _))) (fun i j => by rw [W.dataLt_int]; exact (W.not_lt_int i j).symm) h
theorem cmp_gt {d e : D} {k : Bool} (h : cmp .gt d e = some k) : W.alike d e = true ∧ d ≠ .none ∧ shallow d e = true ∧ k = W.dataLt e d :=
  cmp_ints (f := fun i j => decide (j < i)) (g := fun a b => W.dataLt b a) (fun _ _ => rfl) (fun z => by cases d <;> first | rfl | (cases e <;> first | rfl | exact absurd ⟨rfl, rfl⟩ (z _ _))) (fun i j => (W.dataLt_int j i).symm) h
theorem cmp_ge {d e : D} {k : Bool} (h : cmp .ge d e = some k) : W.alike d e = true ∧ d ≠ .none ∧ shallow d e = true ∧ k = !W.dataLt d e :=
  cmp_ints (f := fun i j => decide (j ≤ i)) (g := fun a b => !W.dataLt a b) (fun _ _ => rfl) (fun z => by cases d <;> first | rfl | (cases e <;> first | rfl | exact absurd ⟨rfl, rfl⟩ (z _ _))) (fun i j => by rw [W.dataLt_int]; exact (W.not_lt_int j i).symm) h
theorem fits_of {xs : List D} (h : xs.all fitB = true) : ∀ x ∈ xs, x.fits63 := fun x hx => by
  have q := List.all_eq_true.mp h x hx
  cases x <;> first | trivial | (have q' := of_decide_eq_true q; simp only [PyData.fits63, line] at *; omega)
def rCmpD (K : PySem.W.Frag) (o : COp) : R2 := fun x y H Q => ∃ d e k, Dp K H x d ∧ Dp K H y e ∧ cmp o d e = some k ∧ Q (.bl k) H
theorem op_cmpD (hu : X.A.units + 66 < cLine) (o : COp) : OpR X (compareOp (copOf o)) (rCmpD X.K o) := by
  intro pins s σ H x y v u Q I rx ry h
  obtain ⟨d, e, k, hd, he, hk, q⟩ := h
  obtain ⟨as, r1⟩ := Dp.reads I d x v hd rx
  obtain ⟨bs, r2⟩ := Dp.reads I e y u he ry
  have fin : ∀ k', k' = k → EP X pins σ Q (.bool k') s := fun k' ek => ⟨.bl k, H, I, by rw [ek]; rfl, q⟩
  have inR : ∀ (xs : List D), shallow (.list xs) d = true → X.A.units + 1 + min (PyData.depthAll xs) d.depth < cLine := fun xs hs => by
    unfold shallow at hs
    rw [Bool.or_eq_true, decide_eq_true_eq, decide_eq_true_eq, PyData.depth] at hs
    omega
  cases o with
  | eq =>
    obtain ⟨hs, ek⟩ := some_if hk
    exact SeqAt.eq_plain r1 r2 (Dp.plain hd) (Dp.plain he) (shallow_room hs hu) (fin _ ek)
  | ne =>
    obtain ⟨hs, ek⟩ := some_if hk
    exact SeqAt.ne_plain r1 r2 (Dp.plain hd) (Dp.plain he) (shallow_room hs hu) (fin _ ek)
  | lt =>
    obtain ⟨h1, h2, h3, ek⟩ := cmp_lt hk
    exact W.lt_data r1 r2 h1 h2 (shallow_room h3 hu) (fin _ ek.symm)
  | le =>
    obtain ⟨h1, h2, h3, ek⟩ := cmp_le hk
    exact W.le_data r1 r2 h1 h2 (shallow_room h3 hu) (fin _ ek.symm)
  | gt =>
    obtain ⟨h1, h2, h3, ek⟩ := cmp_gt hk
    exact W.gt_data r1 r2 h1 h2 (shallow_room h3 hu) (fin _ ek.symm)
  | ge =>
    obtain ⟨h1, h2, h3, ek⟩ := cmp_ge hk
    exact W.ge_data r1 r2 h1 h2 (shallow_room h3 hu) (fin _ ek.symm)
  | isN =>
    cases e with
    | none =>
      cases he
      refine op_isN pins s σ H x .non v u Q I rx ry ⟨rfl, ?_⟩
      have : decide (x = V.non) = k := by
        cases hk
        cases hd <;> rfl
      rw [this]; exact q
    | _ => cases hk
  | notN =>
    cases e with
    | none =>
      cases he
      refine op_notN pins s σ H x .non v u Q I rx ry ⟨rfl, ?_⟩
      have : (!decide (x = V.non)) = k := by
        cases hk
        cases hd <;> rfl
      rw [this]; exact q
    | _ => cases hk
  | isIn =>
    cases e with
    | list xs =>
      obtain ⟨hs, ek⟩ := some_if hk
      exact SeqAt.in_list_data r2 r1 (by have := Dp.plain he; simpa [PyData.plain] using this) (Dp.plain hd) (inR xs hs) (fin _ ek)
    | tuple xs =>
      obtain ⟨hs, ek⟩ := some_if hk
      exact SeqAt.in_tuple_data r2 r1 (by have := Dp.plain he; simpa [PyData.plain] using this) (Dp.plain hd) (inR xs hs) (fin _ ek)
    | _ => cases hk
  | notIn =>
    cases e with
    | list xs =>
      obtain ⟨b, hb, eb⟩ := Option.map_eq_some_iff.mp hk
      obtain ⟨hs, ek⟩ := some_if hb
      exact SeqAt.notIn_list_data r2 r1 (by have := Dp.plain he; simpa [PyData.plain] using this) (Dp.plain hd) (inR xs hs) (fin _ (by rw [ek]; exact eb))
    | tuple xs =>
      obtain ⟨b, hb, eb⟩ := Option.map_eq_some_iff.mp hk
      obtain ⟨hs, ek⟩ := some_if hb
      exact SeqAt.notIn_tuple_data r2 r1 (by have := Dp.plain he; simpa [PyData.plain] using this) (Dp.plain hd) (inR xs hs) (fin _ (by rw [ek]; exact eb))
    | _ => cases hk

/-! ### built-ins of one argument -/
theorem cr_any_data (hc : X.calm = true) : CallR X (.builtin "any") (fun vs H Q => ∃ x xs, vs = [x] ∧ Dp X.K H x (.list xs) ∧ xs.all fitB = true ∧ Q (.bl (xs.any PyData.truthy)) H) := by
  intro pins s σ H vs us Q I r h
  obtain ⟨x, xs, rfl, hd, hf, q⟩ := h
  cases hd with
  | lst hs ha =>
    rw [Vals.ref1 r]
    obtain ⟨its, rv, hl, _⟩ := I.list hs
    obtain ⟨as, hr⟩ := Dp.readsAll I xs _ its ha rv
    exact W.any_list_data (vs := its.toArray) (I.ok.hd hc) hl.isList (by simpa using hr) (DpAll.plain ha) (fits_of hf) fun h' tk kp => ⟨.bl _, H, I.kept kp, rfl, q⟩
theorem cr_all_data (hc : X.calm = true) : CallR X (.builtin "all") (fun vs H Q => ∃ x xs, vs = [x] ∧ Dp X.K H x (.list xs) ∧ xs.all fitB = true ∧ Q (.bl (xs.all PyData.truthy)) H) := by
  intro pins s σ H vs us Q I r h
  obtain ⟨x, xs, rfl, hd, hf, q⟩ := h
  cases hd with
  | lst hs ha =>
    rw [Vals.ref1 r]
    obtain ⟨its, rv, hl, _⟩ := I.list hs
    obtain ⟨as, hr⟩ := Dp.readsAll I xs _ its ha rv
    exact W.all_list_data (vs := its.toArray) (I.ok.hd hc) hl.isList (by simpa using hr) (DpAll.plain ha) (fits_of hf) fun h' tk kp => ⟨.bl _, H, I.kept kp, rfl, q⟩
/-- isinstance(x, T) -/
theorem cr_isa : CallR X (.builtin "isinstance") (fun vs H Q => ∃ x d t f, vs = [x, .ty t] ∧ Dp X.K H x d ∧ ((t = "int" ∧ f = PyData.isInt) ∨ (t = "bool" ∧ f = PyData.isBool) ∨ (t = "tuple" ∧ f = PyData.isTuple) ∨ (t = "str" ∧ f = PyData.isStr)) ∧ Q (.bl (f d)) H) := by
  intro pins s σ H vs us Q I r h
  obtain ⟨x, d, t, f, rfl, hd, ht, q⟩ := h
  obtain ⟨u, w', rfl, rx, rt⟩ := vals2 r
  obtain rfl : w' = .type t := rt
  obtain ⟨as, r1⟩ := Dp.reads I d x u hd rx
  rcases ht with ⟨rfl, rfl⟩ | ⟨rfl, rfl⟩ | ⟨rfl, rfl⟩ | ⟨rfl, rfl⟩
  · exact W.isinstance_int_data r1 fun tk _ => ⟨.bl _, H, I.tok tk, rfl, q⟩
  · exact W.isinstance_bool_data r1 fun tk _ => ⟨.bl _, H, I.tok tk, rfl, q⟩
  · exact W.isinstance_tuple_data r1 fun tk _ => ⟨.bl _, H, I.tok tk, rfl, q⟩
  · exact W.isinstance_str_data r1 fun tk _ => ⟨.bl _, H, I.tok tk, rfl, q⟩
end
end MP
end

section
set_option autoImplicit false
set_option linter.all false
set_option maxRecDepth 100000
/-! Which expression of the program's text a program of Mini's stands for: a check by computation. -/
namespace MP
open PySem PySem.Spec PyProof.Rows L2

def isVis (sc : Scope) (x : Str) : Bool := match sc.names.lookup x with
  | some .local => true
  | some .cell => true
  | some .free => true
  | _ => false
def isLoc (sc : Scope) (x : Str) : Bool := match sc.names.lookup x with
  | some .local => true
  | _ => false
/-- a name of its own, captured or not -/
def isSto (sc : Scope) (x : Str) : Bool := match sc.names.lookup x with
  | some .local => true
  | some .cell => true
  | _ => false
def isGl (sc : Scope) (x : Str) : Bool := match sc.names.lookup x with
  | some .globalImplicit => true
  | _ => false
def sDebug : Str := "__debug__"
def sClassdict : Str := "__classdict__"
/-- the name x stands in slot i -/
def nm (N : List Str) (sc : Scope) (i : Nat) (x : Str) : Bool := decide (N[i]? = some x) && isVis sc x && !(x == sDebug) && !(x == sClassdict)
/-- a built-in's name (or a def's), not shadowed -/
def gl (sc : Scope) (x : Str) (y : String) : Bool := decide (x = Str.ofString y) && isGl sc x && !(x == sDebug)
def constOk : D → Const → Bool
  | .none, .none => true
  | .bool a, .bool b => a == b
  | .int a, .int b => a == b
  | .str a, .str b => decide (a = b)
  | _, _ => false
def bopOf : BOp → Operator
  | .add => .Add | .sub => .Sub | .mul => .Mult | .fdiv => .FloorDiv | .mod => .Mod | .pow => .Pow | .shl => .LShift | .shr => .RShift | .band => .BitAnd | .bor => .BitOr
def isLitNone : Ex → Bool
  | .lit .none => true
  | _ => false
def isLitTrue : Ex → Bool
  | .lit (.bool true) => true
  | _ => false
def b1Name : B1 → Option String
  | .len => some "len" | .tuple => some "tuple" | .list => some "list" | .sorted => some "sorted" | .sum => some "sum" | .any => some "any" | .all => some "all" | .max => some "max" | .min => some "min" | .int => some "int" | .abs => some "abs"
  | _ => none
def b1Isa : B1 → Option String
  | .isInt => some "int" | .isBool => some "bool" | .isTuple => some "tuple" | .isStr => some "str"
  | _ => none
def b2Name : B2 → String
  | .min => "min" | .max => "max"
def sameLine (a c : Pos) : Bool := a.endLine == c.line
/-- a target's names -/
def tgOk (N : List Str) (sc : Str → Bool) : List Nat → List Expr → Bool
  | [], [] => true
  | i :: is, .Name x _ :: xs => decide (N[i]? = some x) && sc x && tgOk N sc is xs
  | _, _ => false
def trTg (N : List Str) (sc : Str → Bool) : Tg → Expr → Bool
  | .var i, .Name x _ => decide (N[i]? = some x) && sc x
  | .tup is, .Tuple xs _ _ => tgOk N sc is xs
  | _, _ => false
def ownOf (N : List Str) (t : Tg) : List (Str × Nat) := t.vars.map fun i => ((N[i]?).getD sDebug, i)
def needTup : It → Tg → Bool
  | .enum _, .tup [_, _] => true
  | .zip _ _, .tup [_, _] => true
  | .enum _, _ => false
  | .zip _ _, _ => false
  | _, _ => true

mutual
def tr (N : List Str) : Ex → Scope → Expr → Bool
  | .lit d, _, x => match x with
    | .Constant c _ _ => constOk d c
    | _ => false
  | .glo g, sc, x => match x with
    | .Name y _ => gl sc y g
    | _ => false
  | .var i, sc, x => match x with
    | .Name y _ => nm N sc i y
    | _ => false
  | .pk i, sc, x => match x with
    | .Name y _ => nm N sc i y
    | _ => false
  | .tup es, sc, x => match x with
    | .Tuple xs _ _ => trs N es sc xs
    | _ => false
  | .lst es, sc, x => match x with
    | .List xs _ => trs N es sc xs
    | _ => false
  | .bin o a b, sc, x => match x with
    | .BinOp y op z _ => decide (bopOf o = op) && tr N a sc y && tr N b sc z
    | _ => false
  | .neg a, sc, x => match x with
    | .UnaryOp .USub y _ => tr N a sc y
    | _ => false
  | .inv a, sc, x => match x with
    | .UnaryOp .Invert y _ => tr N a sc y
    | _ => false
  | .not a, sc, x => match x with
    | .UnaryOp .Not y _ => tr N a sc y
    | _ => false
  | .and a b, sc, x => match x with
    | .BoolOp .And (y :: z :: rest) pos => tr N a sc y && (match rest with | [] => tr N b sc z | _ :: _ => tr N b sc (.BoolOp .And (z :: rest) pos))
    | _ => false
  | .or a b, sc, x => match x with
    | .BoolOp .Or (y :: z :: rest) pos => tr N a sc y && (match rest with | [] => tr N b sc z | _ :: _ => tr N b sc (.BoolOp .Or (z :: rest) pos))
    | _ => false
  | .cmp o a b, sc, x => match x with
    | .Compare y [op] [z] _ => decide (copOf o = op) && tr N a sc y && tr N b sc z
    | _ => false
  | .chain o p a b c, sc, x => match x with
    | .Compare y [op, oq] [z, w] _ => decide (copOf o = op) && decide (copOf p = oq) && tr N a sc y && tr N b sc z && tr N c sc w
    | _ => false
  | .ife c a b, sc, x => match x with
    | .IfExp w y z _ => tr N c sc w && tr N a sc y && tr N b sc z
    | _ => false
  | .idx a i, sc, x => match x with
    | .Subscript y z _ => tr N a sc y && tr N i sc z
    | _ => false
  | .slc a lo hi, sc, x => match x with
    | .Subscript y (.Slice l h none _) _ => tr N a sc y && (match l with | none => isLitNone lo | some z => tr N lo sc z) && (match h with | none => isLitNone hi | some z => tr N hi sc z)
    | _ => false
  | .rev a, sc, x => match x with
    | .Subscript y (.Slice none none (some (.UnaryOp .USub (.Constant (.int 1) _ _) _)) _) _ => tr N a sc y
    | _ => false
  | .b1 f a, sc, x => match x with
    | .Call (.Name g _) xs [] _ => (match xs with
      | [y] => (match b1Name f with | some s => gl sc g s | none => false) && tr N a sc y
      | [y, .Name t _] => gl sc g "isinstance" && (match b1Isa f with | some s => gl sc t s | none => false) && tr N a sc y
      | _ => false)
    | .Call (.Attribute y m ap) [] [] cp => decide (f = .bitlen) && decide (m = Str.ofString "bit_length") && sameLine ap cp && tr N a sc y
    | _ => false
  | .b2 f a b, sc, x => match x with
    | .Call (.Name g _) [y, z] [] _ => gl sc g (b2Name f) && tr N a sc y && tr N b sc z
    | _ => false
  | .count a b, sc, x => match x with
    | .Call (.Attribute y m ap) [z] [] cp => decide (m = Str.ofString "count") && sameLine ap cp && tr N a sc y && tr N b sc z
    | _ => false
  | .call f es, sc, x => match x with
    | .Call (.Name g _) (y :: ys) [] _ => gl sc g f && trArgs N es sc (y :: ys)
    | _ => false
  | .io _, _, _ => false
  | .app i a, sc, x => match x with
    | .Call (.Attribute (.Name y _) m ap) [z] [] cp => nm N sc i y && decide (m = Str.ofString "append") && sameLine ap cp && tr N a sc z
    | _ => false
  | .appNew i, sc, x => match x with
    | .Call (.Attribute (.Name y _) m ap) [.List [] _] [] cp => nm N sc i y && decide (m = Str.ofString "append") && sameLine ap cp
    | _ => false
  | .appAt i k a, sc, x => match x with
    | .Call (.Attribute (.Subscript (.Name y _) w _) m ap) [z] [] cp => nm N sc i y && tr N k sc w && decide (m = Str.ofString "append") && sameLine ap cp && tr N a sc z
    | _ => false
  | .ext i a, sc, x => match x with
    | .Call (.Attribute (.Name y _) m ap) [z] [] cp => nm N sc i y && decide (m = Str.ofString "extend") && sameLine ap cp && tr N a sc z
    | _ => false
  | .pop i, sc, x => match x with
    | .Call (.Attribute (.Name y _) m ap) [] [] cp => nm N sc i y && decide (m = Str.ofString "pop") && sameLine ap cp
    | _ => false
  | .popAt i k, sc, x => match x with
    | .Call (.Attribute (.Name y _) m ap) [z] [] cp => nm N sc i y && decide (m = Str.ofString "pop") && sameLine ap cp && tr N k sc z
    | _ => false
  | .comp t it c a, sc, x => match x with
    | .ListComp y [⟨w, z, cs, 0⟩] scope _ => blkC N sc scope (ownOf N t) && trTg N (isSto scope) t w && needTup it t && trI N it sc z && (match cs with | [] => isLitTrue c | [q] => tr N c (relS scope sc) q | _ => false) && tr N a (relS scope sc) y
    | _ => false
  | .sortk _ _ _, _, _ => false
  | .itL it, sc, x => match x with
    | .Call (.Name g _) [.Call (.Name h _) ys [] _] [] _ => gl sc g "list" && gl sc h "range" && trR N it sc ys
    | _ => false
  | .itT it, sc, x => match x with
    | .Call (.Name g _) [.Call (.Name h _) ys [] _] [] _ => gl sc g "tuple" && gl sc h "range" && trR N it sc ys
    | _ => false
def trs (N : List Str) : Exs → Scope → List Expr → Bool
  | .nil, _, xs => xs.isEmpty
  | .cons a r, sc, xs => match xs with
    | y :: ys => tr N a sc y && trs N r sc ys
    | [] => false
def trArgs (N : List Str) : Exs → Scope → List Expr → Bool
  | .nil, _, xs => xs.isEmpty
  | .cons a r, sc, xs => match xs with
    | y :: ys => (match a with
      | .io i => (match y with
        | .Name z _ => nm N sc i z
        | _ => false)
      | a => tr N a sc y) && trArgs N r sc ys
    | [] => false
/-- range's arguments -/
def trR (N : List Str) : It → Scope → List Expr → Bool
  | .range a, sc, xs => match xs with
    | [y] => tr N a sc y
    | _ => false
  | .range2 a b, sc, xs => match xs with
    | [y, z] => tr N a sc y && tr N b sc z
    | _ => false
  | _, _, _ => false
def trI (N : List Str) : It → Scope → Expr → Bool
  | .ex a, sc, x => tr N a sc x
  | .range a, sc, x => match x with
    | .Call (.Name g _) [y] [] _ => gl sc g "range" && tr N a sc y
    | _ => false
  | .range2 a b, sc, x => match x with
    | .Call (.Name g _) [y, z] [] _ => gl sc g "range" && tr N a sc y && tr N b sc z
    | _ => false
  | .range3 a b c, sc, x => match x with
    | .Call (.Name g _) [y, z, w] [] _ => gl sc g "range" && tr N a sc y && tr N b sc z && tr N c sc w
    | _ => false
  | .enum a, sc, x => match x with
    | .Call (.Name g _) [y] [] _ => gl sc g "enumerate" && tr N a sc y
    | _ => false
  | .zip a b, sc, x => match x with
    | .Call (.Name g _) [y, z] [] _ => gl sc g "zip" && tr N a sc y && tr N b sc z
    | _ => false
end
end MP
end

section
set_option autoImplicit false
set_option linter.all false
set_option maxRecDepth 100000
/-! What a text says of its constants and of its own exception classes. -/
namespace MP
open PySem PySem.Spec PyProof.Rows L2

/-- what {x} makes of a value -/
def Fmt (v : V) (z : Str) : Prop := v = .str z ∨ (v = .non ∧ z = "None") ∨ ∃ i : Int, v = .int i ∧ i.natAbs.log2 < 1920 ∧ z = Str.ofString (toString i)
/-- what an __init__ of this kind takes -/
def okV : XKind → List V → Prop
  | .base, _ => False
  | .one, us => ∃ y : Str, us = [.str y] ∧ y.length ≤ 900
  | .two, us => ∃ (v : V) (y z : Str), us = [v, .str y] ∧ y.length ≤ 900 ∧ Fmt v z ∧ z.length ≤ 900
  | .many, us => ∃ (y : Str) (i : Int), us = [.str y, .int i] ∧ y.length ≤ 900 ∧ i.natAbs.log2 < 1920 ∧ (Str.ofString (toString i)).length ≤ 900
  | .quiet, us => ∃ v : V, us = [v]
def fldsOf {α : Type} (flds : List String) (us : List α) : List (Str × α) := ((flds.map Str.ofString).zip us).reverse
/-- the promise of an own exception's __init__ -/
def spN (kind : XKind) (C : Addr) (flds : List String) : Sp := fun vs H Q _ => ∃ (a : Addr) (us : List V), vs = .ref a :: us ∧ us.length = flds.length ∧ okV kind us ∧ H a = some (exo a C none) ∧
  ∀ dx, H dx = none → dx ≠ a → Q .non (upd (upd H dx (exd dx (fldsOf flds us))) a (exo a C (some dx)))
/-- a class that can be raised -/
structure RaiseAt (P : Program) (w : World) (K : PySem.W.Frag) (mg : Str → Option Value) (base : Heap) (C : Addr) (i : XCls) : Prop where
  T : OexC K C
  xf : XfC K C
  ha : PySem.W.findIn K (.ref C) "__class__" = some (some (.builtin "object.__class__"))
  hn : PySem.W.specialIn K (.builtin "object.__class__") "__get__" = some (some (.builtin "getset_descriptor.__get__"))
  ht : PySem.W.takesIn K (.builtin "object.__class__") = some true
  hm : PySem.W.mroIn K C (.type "object") = some true
  cl : (PySem.W.clsIn K C).isSome = true
  ini : ∃ (fI : Addr) (fd : FuncData) (ps : List Str), PySem.W.findIn K (.ref C) "__init__" = some (some (.ref fI)) ∧ PySem.W.typeIn K (.ref fI) = some (.type "function") ∧ Binds K fd ps [] ∧ FnOk P w K mg base (L2.CX P w) 1 fI fd ps (spN i.kind C i.flds)
  nof : ∀ f ∈ i.flds, PySem.W.findIn K (.ref C) (Str.ofString f) = some none
  nd : (i.flds.map Str.ofString).Nodup
/-- a caught or raised exception in the heap -/
def XRof (K : PySem.W.Frag) (mg : Str → Option Value) (cls : String → Option XCls) : XRel := fun x c d H => ∃ (i : XCls) (C dx : Addr) (us : List V), cls x.cls = some i ∧ i.kind ≠ .base ∧ mg (Str.ofString x.cls) = some (.ref C) ∧ c = .ref C ∧ d = some dx ∧
  H dx = some (.xd (fldsOf i.flds us)) ∧ us.length = i.flds.length ∧ RqAll K H (fun _ => False) False us x.args
structure XOk (P : Program) (w : World) (K : PySem.W.Frag) (mg : Str → Option Value) (base : Heap) (cls : String → Option XCls) (XR : XRel) : Prop where
  at_ : ∀ c i, cls c = some i → ∃ C, mg (Str.ofString c) = some (.ref C) ∧ (i.kind ≠ .base → RaiseAt P w K mg base C i)
  two : ∀ c i c' i' C C', cls c = some i → cls c' = some i' → i.kind ≠ .base → mg (Str.ofString c) = some (.ref C) → mg (Str.ofString c') = some (.ref C') →
    PySem.W.exmOne K (.ref C) (.ref C') = some (i.ups.contains c') ∧ PySem.W.kitOne K (.ref C) (.ref C') = some (i.ups.contains c')
  xr : XR = XRof K mg cls
/-- a module's constant -/
def ConAt (K : PySem.W.Frag) (mg : Str → Option Value) (x : String) (d : D) : Prop := ∃ (v : V) (u : Value), mg (Str.ofString x) = some u ∧ RelV v u ∧ ∀ (H : Hp) (T : Addr → Prop), Rp K H T v d
section
variable {K : PySem.W.Frag} {mg : Str → Option Value} {cls : String → Option XCls} {B T T1 : Addr → Prop} {H H1 : Hp} {fps fps1 : Nat → List Addr} {σ : L2.St} {e : Env} {x : Exn} {c : Value} {d : Option Addr}
theorem XRof.keep (h : XRof K mg cls x c d H) (k1 : ∀ a o, H a = some o → (∀ vs, o ≠ .lst vs) → H1 a = some o) : XRof K mg cls x c d H1 := by
  obtain ⟨i, C, dx, us, h1, h2, h3, h4, h5, h6, h7, h8⟩ := h
  exact ⟨i, C, dx, us, h1, h2, h3, h4, h5, k1 _ _ h6 (fun _ z => nomatch z), h7, h8.keep ⟨fun _ z => z, fun _ _ z => z.elim, fun a o u z => k1 _ _ z (fun _ z => nomatch z)⟩⟩
theorem XRof.ext (h : XRof K mg cls x c d H) (f : Fm K H T B fps σ e) (q : Ext B H T fps H1 T1 fps1) : XRof K mg cls x c d H1 := h.keep fun a o ha hn => q.keep a o ha fun i hi => by
  obtain ⟨vs, hv⟩ := f.there hi
  rw [ha] at hv
  cases hv
  exact hn _ rfl
end
end MP
end

section
set_option autoImplicit false
set_option linter.all false
set_option maxRecDepth 100000
/-! Soundness of expressions, 1: the pieces. -/
namespace MP
open PySem PySem.Spec PyProof.Rows L2

def bltNames : List Str := [Str.ofString "len", Str.ofString "tuple", Str.ofString "list", Str.ofString "sorted", Str.ofString "sum", Str.ofString "any", Str.ofString "all", Str.ofString "max", Str.ofString "min", Str.ofString "int", Str.ofString "abs",
  Str.ofString "isinstance", Str.ofString "bool", Str.ofString "str", Str.ofString "range", Str.ofString "enumerate", Str.ofString "zip"]
/-- a def's promise: it does what Mini says -/
def spF (K : PySem.W.Frag) (XR : XRel) (g : List Slot → COut) : Sp := fun vs H Q E => ∃ T B fps ss, Fm K H T B fps (vs.map some) ss ∧ match g ss with
  | .ret r outs => ∀ v H' T' fps' fp, Ps K B H T fps (vs.map some) r outs v H' T' fps' fp → Q v H'
  | .exc x outs => ∀ H' T' fps', Ext B H T fps H' T' fps' → Fm K H' T' B fps' (vs.map some) outs → ∀ cls d, XR x cls d H' → E cls d H'
  | .bad => False
def BindsA (K : PySem.W.Frag) (fd : FuncData) (ps : List Str) : Prop := Binds K fd ps [] ∧ ∀ us : List Value, us.length = ps.length → bindArgs fd ⟨us, []⟩ = pure (ps.zip us)
/-- a body's context -/
structure Gd (X : Cx) (call : CallF) (XR : XRel) (W : WX) (n : Nat) : Prop where
  nd : X.N.Nodup
  calm : X.calm = true
  blt : ∀ x ∈ bltNames, X.mg x = none
  room : Room (n + 2) X.A
  tk : Takes X W
  con : ∀ x d, call.con x = some d → ConAt X.K X.mg x d
  xs : XOk X.prog X.w X.K X.mg X.base call.cls XR
  calls : ∀ f g, call.fn f = some g → ∃ fa fd ps, X.mg (Str.ofString f) = some (.ref fa) ∧ PySem.W.keepIn X.K (.ref fa) = true ∧ BindsA X.K fd ps ∧ FnOk X.prog X.w X.K X.mg X.base (L2.CX X.prog X.w) (n + 2) fa fd ps (spF X.K XR g)
section
variable {X : Cx} {call : CallF} {XR : XRel} {W : WX} {n : Nat}
theorem Gd.hu (G : Gd X call XR W n) : X.A.units + 66 < cLine := by have := G.room.un; omega
theorem Gd.bl (G : Gd X call XR W n) {s : String} (h : Str.ofString s ∈ bltNames) : X.mg (Str.ofString s) = none := G.blt _ h

theorem vis_of {sc : Scope} {x : Str} (h : isVis sc x = true) : Vis sc x := by
  unfold isVis at h
  unfold Vis
  split at h <;> first | (cases h; done) | simp_all
theorem loc_of {sc : Scope} {x : Str} (h : isLoc sc x = true) : sc.names.lookup x = some .local := by
  unfold isLoc at h
  split at h <;> first | (cases h; done) | assumption
theorem gl_of {X : Cx} {x : Str} {s : String} (h : gl X.env.scope x s = true) : x = Str.ofString s ∧ Gl X x ∧ (x == ("__debug__" : Str)) = false := by
  unfold gl at h
  rw [Bool.and_eq_true, Bool.and_eq_true, decide_eq_true_eq] at h
  refine ⟨h.1.1, ?_, by simpa [sDebug] using h.2⟩
  have := h.1.2
  unfold isGl at this
  show X.env.scope.names.lookup x = _
  split at this <;> first | (cases this; done) | assumption
/-- a plain test: its value's truth -/
def plainT : Expr → Bool
  | .BoolOp .. => false
  | .UnaryOp .Not _ _ => false
  | .IfExp .. => false
  | .Compare .. => false
  | _ => true
theorem isTrue_of_plain {x : Expr} (h : plainT x = true) (env : PySem.Env) (whole : Sem Value) : PySem.isTrue x env whole = (do let v ← whole; standAt x.pos; holding [v] (PySem.truthy v)) := by
  cases x <;> first | rfl | (cases h; done) | skip
  rename_i op y pos
  cases op <;> first | rfl | (cases h; done)
theorem pt_plain {x : Expr} {o : Env → Out R} (hp : plainT x = true) (h : PE X x (rdE X.K XR W o)) : PT X x (rdT X.K XR W fun e => truthOf (o e)) :=
  PT.imp (pt_truth h (isTrue_of_plain hp _)) fun _ _ _ q => rdT_of q
theorem pe_V {x : Expr} {o : Env → Out R} (h : PE X x (rdE X.K XR W o)) : PE X x (rdV X.K XR W fun e => valOf (o e)) := PE.imp h fun _ _ _ q => rdV_of q
theorem pe_I {x : Expr} {o : Env → Out R} (h : PE X x (rdE X.K XR W o)) : PE X x (rdI X.K XR W fun e => intOf (o e)) := PE.imp h fun _ _ _ q => rdI_of q

variable {K : PySem.W.Frag} {σ : L2.St} {H : Hp} {Q : VK}
/-- a reading of two answers, from the reading of the whole -/
theorem rd2V {a b : Env → Out D} {k : D → D → Env → Out R} {R2' : V → V → Hp → Prop} (h : rdE K XR W (fun e => (a e).bind fun x e1 => (b e1).bind fun y e2 => k x y e2) σ H Q)
    (hk : ∀ B H T fps e0 x y v u e H' T' fps', Fm K H T B fps σ e0 → Ext B H T fps H' T' fps' → Fm K H' T' B fps' σ e → Rp K H' T' v x → Rp K H' T' u y → OutOk (k x y e) (fun r e' => ∀ w H2 T2 fps2 fp, Ps K B H T fps σ r e' w H2 T2 fps2 fp → Q w H2) (eArm K XR W B H T fps σ) → R2' v u H') :
    rdV K XR W a σ H fun v H1 => rdV K XR W b σ H1 fun u H2 => R2' v u H2 := by
  obtain ⟨T, B, fps, e, f, h⟩ := h
  refine ⟨T, B, fps, e, f, (OutOk.bind h).mono (fun x e1 q v H1 T1 fps1 x1 f1 r1 => ?_) fun _ _ q => q⟩
  refine ⟨T1, B, fps1, e1, f1, (OutOk.bind q).mono (fun y e2 q u H2 T2 fps2 x2 f2 r2 => ?_) fun _ _ q => q.trans x1⟩
  exact hk B H T fps e x y v u e2 H2 T2 fps2 f (x1.trans x2) f2 (r1.keep x2.kept) r2 q
theorem rd1V {a : Env → Out D} {k : D → Env → Out R} {R1' : V → Hp → Prop} (h : rdE K XR W (fun e => (a e).bind fun x e1 => k x e1) σ H Q)
    (hk : ∀ B T fps e0 x v e H' T' fps', Fm K H T B fps σ e0 → Ext B H T fps H' T' fps' → Fm K H' T' B fps' σ e → Rp K H' T' v x → OutOk (k x e) (fun r e' => ∀ w H2 T2 fps2 fp, Ps K B H T fps σ r e' w H2 T2 fps2 fp → Q w H2) (eArm K XR W B H T fps σ) → R1' v H') :
    rdV K XR W a σ H fun v H1 => R1' v H1 := by
  obtain ⟨T, B, fps, e, f, h⟩ := h
  exact ⟨T, B, fps, e, f, (OutOk.bind h).mono (fun x e1 q v H1 T1 fps1 x1 f1 r1 => hk B T fps e x v e1 H1 T1 fps1 f x1 f1 r1 q) fun _ _ q => q⟩
theorem rd1I {a : Env → Out Int} {k : Int → Env → Out R} {R1' : V → Hp → Prop} (h : rdE K XR W (fun e => (a e).bind fun x e1 => k x e1) σ H Q)
    (hk : ∀ B T fps e0 i e H' T' fps', Fm K H T B fps σ e0 → Ext B H T fps H' T' fps' → Fm K H' T' B fps' σ e → OutOk (k i e) (fun r e' => ∀ w H2 T2 fps2 fp, Ps K B H T fps σ r e' w H2 T2 fps2 fp → Q w H2) (eArm K XR W B H T fps σ) → R1' (.int i) H') :
    rdI K XR W a σ H fun v H1 => R1' v H1 := by
  obtain ⟨T, B, fps, e, f, h⟩ := h
  exact ⟨T, B, fps, e, f, (OutOk.bind h).mono (fun x e1 q H1 T1 fps1 x1 f1 => hk B T fps e x e1 H1 T1 fps1 f x1 f1 q) fun _ _ q => q⟩
/-- a value that is its own description -/
theorem done_st {B T T' : Addr → Prop} {H' : Hp} {fps fps' : Nat → List Addr} {e : Env} {d : D} {v : V} (h : ∀ w H2 T2 fps2 fp, Ps K B H T fps σ (.st d) e w H2 T2 fps2 fp → Q w H2)
    (x : Ext B H T fps H' T' fps') (f : Fm K H' T' B fps' σ e) (r : Rp K H' T' v d) : Q v H' := h v H' T' fps' [] (.st x f r)
/-- .. a new tuple -/
theorem done_tup {B T T' : Addr → Prop} {H' : Hp} {fps fps' : Nat → List Addr} {e : Env} {ds : List D} {vs : List V} (h : ∀ w H2 T2 fps2 fp, Ps K B H T fps σ (.st (.tuple ds)) e w H2 T2 fps2 fp → Q w H2)
    (x : Ext B H T fps H' T' fps') (f : Fm K H' T' B fps' σ e) (r : RpAll K H' T' vs ds) : NewT vs H' Q := fun p its n hp =>
  h _ _ _ _ [] (.st (x.trans (.new hp)) (f.new hp) (.tup (.inl ⟨its, n, upd_same⟩) (r.keep (.new hp fun _ h => h))))
/-- .. a new list -/
theorem done_lst {B T T' : Addr → Prop} {H' : Hp} {fps fps' : Nat → List Addr} {e : Env} {ds : List D} {vs : List V} (h : ∀ w H2 T2 fps2 fp, Ps K B H T fps σ (.fr ds) e w H2 T2 fps2 fp → Q w H2)
    (x : Ext B H T fps H' T' fps') (f : Fm K H' T' B fps' σ e) (r : RpAll K H' T' vs ds) : NewL vs H' Q := fun p hp => by
  refine h _ _ _ _ [p] ⟨x.trans (.new hp), f.new hp, ⟨p, vs, rfl, rfl, upd_same, r.keep (.new hp fun _ h => h)⟩, by simp, fun a ha => ?_⟩
  obtain rfl : a = p := by simpa using ha
  exact ⟨x.back hp, fun z => f.td a z hp, fun i z => f.notNone hp z, fun z => f.bd a z hp⟩
end
end MP
end

section
set_option autoImplicit false
set_option linter.all false
set_option maxRecDepth 100000
/-! Soundness of expressions, 2: operators. -/
namespace MP
open PySem PySem.Spec PyProof.Rows L2
section
variable {X : Cx} {XR : XRel} {W : WX}
theorem Rp.list {K : PySem.W.Frag} {H : Hp} {T : Addr → Prop} {v : V} {xs : List D} (h : Rp K H T v (.list xs)) : ∃ a vs, v = .ref a ∧ Rd H a (.lst vs) ∧ RpAll K H T vs xs := by
  cases h with
  | lst hs ha =>
    rcases hs with ⟨_, h⟩ | ⟨h, _⟩
    · exact ⟨_, _, rfl, h, ha⟩
    · exact h.elim
theorem Rq.tuple {K : PySem.W.Frag} {H : Hp} {T : Addr → Prop} {kl : Prop} {v : V} {xs : List D} (h : Rq K H T kl v (.tuple xs)) : ∃ a vs, v = .ref a ∧ SqF K H a vs ∧ RqAll K H T kl vs xs := by
  cases h with
  | tup hs ha => exact ⟨_, _, rfl, hs, ha⟩
theorem Rq.intE {K : PySem.W.Frag} {H : Hp} {T : Addr → Prop} {kl : Prop} {v : V} {i : Int} (h : Rq K H T kl v (.int i)) : v = .int i := by cases h; rfl
theorem RqAll.nil_iff {K : PySem.W.Frag} {H : Hp} {T : Addr → Prop} {kl : Prop} {vs : List V} {xs : List D} (h : RqAll K H T kl vs xs) : vs = [] ↔ xs = [] := by
  cases h <;> simp
theorem mul_of {i j : Int} (h : mulOk i j = true) : CMul i j := (mulOk_iff i j).mp h
theorem sh_of {i j : Int} (h : shOk i j = true) : CPow i j := by
  have := (shOk_iff i j).mp h
  exact ⟨this.1.1, this.1.2, this.2⟩
theorem line_eq : line = sizeLine := by rw [sizeLine_eq]; rfl
/-- what is asked of an operator's rule -/
def BinR (X : Cx) (XR : XRel) (W : WX) (o : BOp) (r : R2) : Prop := ∀ (H : Hp) (Q : VK) (σ : L2.St) (B T T' : Addr → Prop) (H' : Hp) (fps fps' : Nat → List Addr) (e : Env) (x y : D) (v u : V), Ext B H T fps H' T' fps' → Fm X.K H' T' B fps' σ e → Rp X.K H' T' v x → Rp X.K H' T' u y →
  OutOk (lift e (bin o x y)) (fun r e' => ∀ w H2 T2 fps2 fp, Ps X.K B H T fps σ r e' w H2 T2 fps2 fp → Q w H2) (eArm X.K XR W B H T fps σ) → r v u H' Q
theorem bin_int {o : BOp} {c : Int → Int → Bool} {C : Int → Int → Prop} {g : Int → Int → Int} (hb : ∀ x y, bin o x y = binI c g x y) (hc : ∀ i j, c i j = true → C i j) : BinR X XR W o (rI C fun i j => .int (g i j)) := by
  intro H Q σ B T T' H' fps fps' e x y v u hx hf rx ry h
  obtain ⟨r, hr, h⟩ := h.of_lift
  rw [hb] at hr
  unfold binI at hr
  split at hr
  · obtain ⟨hk, er⟩ := some_if hr
    subst er
    obtain rfl := rx.intE
    obtain rfl := ry.intE
    exact ⟨_, _, rfl, rfl, hc _ _ hk, h _ _ _ _ [] (.st hx hf (.int _))⟩
  · cases hr
theorem bin_int0 {o : BOp} {g : Int → Int → Int} (hb : ∀ x y, bin o x y = binI (fun _ _ => true) g x y) : BinR X XR W o (rI0 fun i j => .int (g i j)) := by
  intro H Q σ B T T' H' fps fps' e x y v u hx hf rx ry h
  obtain ⟨i, j, e1, e2, _, q⟩ := bin_int (X := X) (XR := XR) (W := W) (C := fun _ _ => True) hb (fun _ _ _ => trivial) H Q σ B T T' H' fps fps' e x y v u hx hf rx ry h
  exact ⟨i, j, e1, e2, q⟩
theorem bin_ok (o : BOp) : ∃ r : R2, OpR X (binaryOp (bopOf o)) r ∧ BinR X XR W o r := by
  cases o with
  | add =>
    refine ⟨_, (op_add.or (op_catF.or op_catL)), ?_⟩
    intro H Q σ B T T' H' fps fps' e x y v u hx hf rx ry h
    obtain ⟨r, hr, h⟩ := h.of_lift
    have hr : binAdd x y = some r := hr
    unfold binAdd at hr
    split at hr
    · cases hr
      obtain rfl := rx.intE
      obtain rfl := ry.intE
      exact .inl ⟨_, _, rfl, rfl, h _ _ _ _ [] (.st hx hf (.int _))⟩
    · split at hr
      · rename_i hz
        cases hr
        obtain ⟨a, vs, rfl, ha, ra⟩ := rx.tuple
        obtain ⟨b, us, rfl, hb, rb⟩ := ry.tuple
        refine .inr (.inl ⟨a, b, vs, us, rfl, rfl, ha.sq, hb.sq, by rw [ra.length, rb.length, ← line_eq]; exact hz, fun e0 => ?_, fun e0 e1 => ?_, fun e0 e1 => ?_⟩)
        · subst e0
          cases ra
          exact h _ _ _ _ [] (.st hx hf (.tup hb rb))
        · subst e1
          cases rb
          exact h _ _ _ _ [] (.st hx hf (by rw [List.append_nil]; exact .tup ha ra))
        · exact done_tup h hx hf (ra.append rb)
      · cases hr
    · split at hr
      · rename_i hz
        cases hr
        obtain ⟨a, vs, rfl, ha, ra⟩ := Rp.list rx
        obtain ⟨b, us, rfl, hb, rb⟩ := Rp.list ry
        exact .inr (.inr ⟨a, b, vs, us, rfl, rfl, ha, hb, by rw [ra.length, rb.length, ← line_eq]; exact hz, done_lst h hx hf (ra.append rb)⟩)
      · cases hr
    · cases hr
  | mul =>
    refine ⟨_, (op_mul.or (op_repL.or op_repF)), ?_⟩
    intro H Q σ B T T' H' fps fps' e x y v u hx hf rx ry h
    obtain ⟨r, hr, h⟩ := h.of_lift
    have hr : binMul x y = some r := hr
    unfold binMul at hr
    split at hr
    · obtain ⟨hk, er⟩ := some_if hr
      subst er
      obtain rfl := rx.intE
      obtain rfl := ry.intE
      exact .inl ⟨_, _, rfl, rfl, mul_of hk, h _ _ _ _ [] (.st hx hf (.int _))⟩
    · split at hr
      · rename_i hz
        cases hr
        obtain ⟨a, vs, rfl, ha, ra⟩ := Rp.list rx
        obtain rfl := ry.intE
        exact .inr (.inl ⟨a, _, vs, rfl, rfl, ha, by omega, by omega, by rw [ra.length, ← line_eq]; exact hz.2.2, done_lst h hx hf (ra.rep _)⟩)
      · cases hr
    · split at hr
      · rename_i hz
        cases hr
        obtain ⟨a, vs, rfl, ha, ra⟩ := rx.tuple
        obtain rfl := ry.intE
        obtain ⟨h0, h1, h2, h3⟩ := hz
        refine .inr (.inr ⟨a, _, vs, rfl, rfl, ha.sq, fun z => h0 ((ra.nil_iff).mp z), h1, h2, by rw [ra.length]; exact h3, fun e1 => ?_, fun e1 => done_tup h hx hf (ra.rep _)⟩)
        subst e1
        refine h _ _ _ _ [] (.st hx hf (.tup ha ?_))
        have e1 : ∀ zs : List D, (List.replicate (1 : Int).toNat zs).flatten = zs := fun zs => by simp
        rw [e1]
        exact ra
      · cases hr
    · cases hr
  | sub => exact ⟨_, op_sub, bin_int0 fun _ _ => rfl⟩
  | band => exact ⟨_, op_and, bin_int0 fun _ _ => rfl⟩
  | bor => exact ⟨_, op_or, bin_int0 fun _ _ => rfl⟩
  | fdiv => exact ⟨_, op_fdiv, bin_int (c := divOk) (fun _ _ => rfl) fun i j h => by simpa [CDiv] using (divOk_iff i j).mp h⟩
  | mod => exact ⟨_, op_mod, bin_int (c := fun _ j => decide (0 < j)) (fun _ _ => rfl) fun i j h => by simpa using h⟩
  | pow => exact ⟨_, op_pow, bin_int (c := shOk) (fun _ _ => rfl) fun i j h => sh_of h⟩
  | shl => exact ⟨_, op_shl, bin_int (c := shOk) (fun _ _ => rfl) fun i j h => sh_of h⟩
  | shr => exact ⟨_, op_shr, bin_int (c := fun _ j => decide (0 ≤ j)) (fun _ _ => rfl) fun i j h => by simpa using h⟩
end
end MP
end

section
set_option autoImplicit false
set_option linter.all false
set_option maxRecDepth 100000
/-! Soundness of expressions, 3: names, what is looked at later. -/
namespace MP
open PySem PySem.Spec PyProof.Rows L2
section
variable {K : PySem.W.Frag} {XR : XRel} {W : WX} {B T T1 T2 : Addr → Prop} {H H1 H2 : Hp} {fps fps1 fps2 : Nat → List Addr} {σ : L2.St} {e e1 e2 : Env}
/-- a name's value is kept from now on -/
theorem Fm.freeze (f : Fm K H T B fps σ e) {i : Nat} {d : D} {s : Slot} (h : (slot e i).freeze = some (d, s)) :
    ∃ v T' fps', σ[i]? = some (some v) ∧ Ext B H T fps H T' fps' ∧ Fm K H T' B fps' σ (e.set i s) ∧ Rp K H T' v d := by
  have hu : slot e i ≠ .u := fun z => by rw [z] at h; cases h
  have hi := f.lt_of hu
  have hs := f.sl i
  -- the slot stays as it is
  have same : ∀ {v : V}, slot e i = s → Fm K H T B fps σ (e.set i s) := fun {v} q => by
    have : e.set i s = e := by
      rw [← q]
      unfold slot
      rw [List.getElem?_eq_getElem hi]
      exact List.set_getElem_self hi
    rw [this]; exact f
  -- its places are values' now
  have grown : ∀ {v : V} {d : D}, (∀ T', (∀ a, T a → T' a) → (∀ a ∈ fps i, T' a) → Rp K H T' v d) → σ[i]? = some (some v) →
      ∃ v T' fps', σ[i]? = some (some v) ∧ Ext B H T fps H T' fps' ∧ Fm K H T' B fps' σ (e.set i (.v d)) ∧ Rp K H T' v d := fun {v d} hr hv => by
    have rp := hr (fun a => T a ∨ a ∈ fps i) (fun _ z => .inl z) fun _ z => .inr z
    refine ⟨v, fun a => T a ∨ a ∈ fps i, fpSet fps i [], hv, ?_, ?_, rp⟩
    · refine { (Ext.own (B := B) (H := H) (T := T) (fps := fps) (i := i) (fp := []) (fun a z => nomatch z)) with t := fun a z => .inl z, nT := fun a z => z.imp id fun q => .inl ⟨i, q⟩ }
    · have f1 : Fm K H T B (fpSet fps i []) σ (e.set i .u) := f.set hi rfl (fun _ _ => rfl) rfl List.nodup_nil (fun _ z => nomatch z) (fun _ z => nomatch z) (fun _ z => nomatch z)
      have f2 : Fm K H (fun a => T a ∨ a ∈ fps i) B (fpSet fps i []) σ (e.set i .u) := f1.grow (fun _ z => .inl z) (fun j a z q => by
        rcases q with q | q
        · exact f1.dT j a z q
        · by_cases hj : j = i
          · subst hj; rw [fpSet_same] at z; cases z
          · rw [fpSet_ne hj] at z; exact hj (f.dj j i a z q)) fun a z => by
        rcases z with z | z
        · exact f.td a z
        · obtain ⟨vs, q⟩ := f.there z; rw [q]; simp
      have f3 := f2.set (s := .v d) (fp := []) (by rw [List.length_set]; exact hi) rfl (fun _ _ => rfl) (show SR K H _ B _ (.v d) [] from ⟨rfl, v, hv, rp⟩) List.nodup_nil (fun _ z => nomatch z) (fun _ z => nomatch z) (fun _ z => nomatch z)
      rw [List.set_set] at f3
      have : fpSet (fpSet fps i []) i [] = fpSet fps i [] := by funext j; unfold fpSet; split <;> rfl
      rw [this] at f3
      exact f3
  cases q : slot e i with
  | u => exact absurd q hu
  | v d' =>
    rw [q] at h hs
    cases h
    obtain ⟨_, x, hx, rx⟩ := hs
    exact ⟨x, T, fps, hx, .refl, same (v := x) q, rx⟩
  | b d' =>
    rw [q] at h hs
    simp only [Slot.freeze] at h
    split at h
    · rename_i hi'
      cases h
      obtain ⟨_, x, hx, rx⟩ := hs
      exact ⟨x, T, fps, hx, .refl, same (v := x) q, rx.immut hi'⟩
    · cases h
  | ol xs =>
    rw [q] at h hs
    cases h
    obtain ⟨a, vs, hv, hfp, hl, ra⟩ := hs
    exact grown (fun T' ht hm => .lst (.inl ⟨hm a (by rw [hfp]; exact List.mem_cons_self), .inl hl⟩) (ra.keep (.refl ht))) hv
  | ol2 xss =>
    rw [q] at h hs
    cases h
    obtain ⟨a, as, hv, hfp, hl, ra⟩ := hs
    refine grown (fun T' ht hm => .lst (.inl ⟨hm a (by rw [hfp]; exact List.mem_cons_self), .inl hl⟩) ?_) hv
    have go : ∀ {as : List Addr} {xss : List (List D)}, (∀ a ∈ as, T' a) → OwnAll K H T as xss → RpAll K H T' (as.map V.ref) (xss.map PyData.list) := by
      intro as xss hm h
      induction h with
      | nil => exact .nil
      | cons h1 h2 _ ih => exact .cons (.lst (.inl ⟨hm _ List.mem_cons_self, .inl h1⟩) (h2.keep (.refl ht))) (ih fun a z => hm a (List.mem_cons_of_mem _ z))
    exact go (fun b z => hm b (by rw [hfp]; exact List.mem_cons_of_mem _ z)) ra
theorem Fm.look (f : Fm K H T B fps σ e) {i : Nat} {r : R} (h : (slot e i).look = some r) : ∃ v, σ[i]? = some (some v) ∧ RR K H T B v r [] := by
  have hs := f.sl i
  cases q : slot e i with
  | u => rw [q] at h; cases h
  | v d =>
    rw [q] at h hs; cases h
    obtain ⟨_, x, hx, rx⟩ := hs
    exact ⟨x, hx, rfl, rx⟩
  | b d =>
    rw [q] at h hs; cases h
    obtain ⟨_, x, hx, rx⟩ := hs
    exact ⟨x, hx, rfl, rx⟩
  | ol xs =>
    rw [q] at h hs; cases h
    obtain ⟨a, vs, hv, _, hl, ra⟩ := hs
    exact ⟨_, hv, rfl, a, vs, rfl, hl, ra⟩
  | ol2 xss =>
    rw [q] at h hs; cases h
    obtain ⟨a, as, hv, _, hl, ra⟩ := hs
    exact ⟨_, hv, rfl, a, as, rfl, hl, ra⟩
/-- an answer that is no own list stays what it is -/
theorem RR.keep {v : V} {r : R} {fp : List Addr} (h : RR K H1 T1 B v r fp) (x : Ext B H1 T1 fps1 H2 T2 fps2) (hw : r.walks = true) (hn : ∀ a ∈ fp, ∀ i, a ∉ fps1 i) : RR K H2 T2 B v r fp := by
  cases r with
  | st d => exact ⟨h.1, h.2.keep x.kept⟩
  | bor d => exact ⟨h.1, h.2.keep x.keptB⟩
  | fr xs =>
    obtain ⟨a, vs, h0, h1, h2, h3⟩ := h
    exact ⟨a, vs, h0, h1, x.keep a _ h2 (hn a (by rw [h1]; exact List.mem_cons_self)), h3.keep x.kept⟩
  | own xs => cases hw
  | own2 xss => cases hw
theorem later_ok {a : Ex} {ra r : R} {v : V} {fp : List Addr} (p : Ps K B H T fps σ ra e1 v H1 T1 fps1 fp) (hv : ∀ j, a = .pk j → σ[j]? = some (some v)) (x : Ext B H1 T1 fps1 H2 T2 fps2) (f2 : Fm K H2 T2 B fps2 σ e2) (h : later a ra e2 = some r) :
    ∃ fp', Ps K B H T fps σ r e2 v H2 T2 fps2 fp' := by
  have old : later a ra e2 = some r → (∀ j, a ≠ .pk j) → ∃ fp', Ps K B H T fps σ r e2 v H2 T2 fps2 fp' := fun h hn => by
    have hr : r = ra ∧ ra.walks = true := by
      unfold later at h
      split at h
      · exact absurd rfl (hn _)
      · split at h
        · cases h
        · cases h
        · rename_i h1 h2
          cases h
          refine ⟨rfl, ?_⟩
          cases ra with
          | own xs => exact absurd rfl (h1 xs)
          | own2 xs => exact absurd rfl (h2 xs)
          | _ => rfl
    obtain ⟨rfl, hw⟩ := hr
    refine ⟨fp, p.ext.trans x, f2, p.rr.keep x hw fun a ha => (p.nw a ha).2.2.1, p.nd, fun a ha => ⟨(p.nw a ha).1, fun z => ?_, fun i z => ?_, (p.nw a ha).2.2.2⟩⟩
    · have there : H1 a ≠ none := by
        cases r with
        | fr xs => obtain ⟨b, vs, _, q, h2, _⟩ := p.rr; rw [q] at ha; obtain rfl : a = b := by simpa using ha
                   rw [h2]; simp
        | st d => rw [p.rr.1] at ha; cases ha
        | bor d => rw [p.rr.1] at ha; cases ha
        | own xs => cases hw
        | own2 xss => cases hw
      rcases x.nT a z with q | ⟨j, q⟩ | q
      · exact (p.nw a ha).2.1 q
      · exact (p.nw a ha).2.2.1 j q
      · exact there q
    · have there : H1 a ≠ none := by
        cases r with
        | fr xs => obtain ⟨b, vs, _, q, h2, _⟩ := p.rr; rw [q] at ha; obtain rfl : a = b := by simpa using ha
                   rw [h2]; simp
        | st d => rw [p.rr.1] at ha; cases ha
        | bor d => rw [p.rr.1] at ha; cases ha
        | own xs => cases hw
        | own2 xss => cases hw
      rcases x.nF a i z with q | q
      · exact (p.nw a ha).2.2.1 i q
      · exact there q
  by_cases hp : ∃ j, a = .pk j
  · obtain ⟨j, rfl⟩ := hp
    obtain ⟨v', hv', rr⟩ := f2.look (show (slot e2 j).look = some r from h)
    rw [hv j rfl] at hv'
    cases hv'
    exact ⟨[], p.ext.trans x, f2, rr, List.nodup_nil, fun _ z => nomatch z⟩
  · exact old h fun j z => hp ⟨j, z⟩
end
end MP
end

section
set_option autoImplicit false
set_option linter.all false
set_option maxRecDepth 100000
/-! Soundness of expressions, 4: the cases that call no def. -/
namespace MP
open PySem PySem.Spec PyProof.Rows L2

/-- .. where a name looked at is known to be it -/
def rdL (K : PySem.W.Frag) (XR : XRel) (W : WX) (m : Ex) (o : Env → Out R) : TE := fun σ H Q => ∃ T B fps e, Fm K H T B fps σ e ∧
  OutOk (o e) (fun r e' => ∀ v H' T' fps' fp, Ps K B H T fps σ r e' v H' T' fps' fp → (∀ j, m = .pk j → σ[j]? = some (some v)) → Q v H') (eArm K XR W B H T fps σ)
def isBoolOp : Expr → Bool
  | .BoolOp .. => true
  | _ => false
/-- what is shown of an expression -/
def EvP (call : CallF) (XR : XRel) (n : Nat) (m : Ex) : Prop := ∀ (X : Cx) (W : WX), Gd X call XR W n → ∀ x : Expr, tr X.N m X.env.scope x = true →
  PE X x (rdL X.K XR W m (ev call m)) ∧ PT X x (rdT X.K XR W fun e => truthOf (ev call m e)) ∧ (isBoolOp x = true → PW X x (rdT X.K XR W fun e => truthOf (ev call m e)))
section
variable {call : CallF} {XR : XRel} {n : Nat} {a b c : Ex}
theorem PE.ofL {X : Cx} {W : WX} {m : Ex} {x : Expr} {o : Env → Out R} (h : PE X x (rdL X.K XR W m o)) : PE X x (rdE X.K XR W o) :=
  PE.imp h fun σ H Q ⟨T, B, fps, e, f, q⟩ => ⟨T, B, fps, e, f, q.mono (fun r e' z v H' T' fps' fp p _ => z v H' T' fps' fp p) fun _ _ z => z⟩
theorem PE.toL {X : Cx} {W : WX} {m : Ex} {x : Expr} {o : Env → Out R} (hm : ∀ j, m ≠ .pk j) (h : PE X x (rdE X.K XR W o)) : PE X x (rdL X.K XR W m o) :=
  PE.imp h fun σ H Q ⟨T, B, fps, e, f, q⟩ => ⟨T, B, fps, e, f, q.mono (fun r e' z v H' T' fps' fp p => z v H' T' fps' fp p fun j q => absurd q (hm j)) fun _ _ z => z⟩
theorem EvP.pe (h : EvP call XR n a) {X : Cx} {W : WX} (G : Gd X call XR W n) {x : Expr} (ht : tr X.N a X.env.scope x = true) : PE X x (rdE X.K XR W (ev call a)) := PE.ofL (h X W G x ht).1
theorem EvP.pl (h : EvP call XR n a) {X : Cx} {W : WX} (G : Gd X call XR W n) {x : Expr} (ht : tr X.N a X.env.scope x = true) : PE X x (rdL X.K XR W a (ev call a)) := (h X W G x ht).1
theorem EvP.pv (h : EvP call XR n a) {X : Cx} {W : WX} (G : Gd X call XR W n) {x : Expr} (ht : tr X.N a X.env.scope x = true) : PE X x (rdV X.K XR W fun e => valOf (ev call a e)) := pe_V (h.pe G ht)
theorem EvP.pi (h : EvP call XR n a) {X : Cx} {W : WX} (G : Gd X call XR W n) {x : Expr} (ht : tr X.N a X.env.scope x = true) : PE X x (rdI X.K XR W fun e => intOf (ev call a e)) := pe_I (h.pe G ht)
theorem EvP.pt (h : EvP call XR n a) {X : Cx} {W : WX} (G : Gd X call XR W n) {x : Expr} (ht : tr X.N a X.env.scope x = true) : PT X x (rdT X.K XR W fun e => truthOf (ev call a e)) := (h X W G x ht).2.1
theorem EvP.plain {m : Ex} (hm : ∀ j, m ≠ .pk j) (h : ∀ (X : Cx) (W : WX), Gd X call XR W n → ∀ x : Expr, tr X.N m X.env.scope x = true → PE X x (rdE X.K XR W (ev call m)) ∧ plainT x = true) : EvP call XR n m := fun X W G x ht => by
  obtain ⟨h1, h2⟩ := h X W G x ht
  refine ⟨PE.toL hm h1, pt_plain h2 h1, fun z => ?_⟩
  cases x <;> first | (cases z; done) | (cases h2; done)
theorem nm_of {X : Cx} {i : Nat} {y : Str} (h : nm X.N X.env.scope i y = true) : X.N[i]? = some y ∧ Vis X.env.scope y ∧ (y == ("__debug__" : Str)) = false ∧ (y == ("__classdict__" : Str)) = false := by
  unfold nm at h
  simp only [Bool.and_eq_true, decide_eq_true_eq, Bool.not_eq_true'] at h
  exact ⟨h.1.1.1, vis_of h.1.1.2, h.1.2, h.2⟩
theorem pe_name {X : Cx} {i : Nat} {y : Str} {pos : Pos} (h : nm X.N X.env.scope i y = true) : PE X (.Name y pos) (tVar i) :=
  let ⟨h1, h2, h3, h4⟩ := nm_of h
  pe_var h1 h2 h3 h4

theorem ev_lit (d : D) : EvP call XR n (.lit d) := EvP.plain (fun _ z => nomatch z) fun X W G x ht => by
  unfold tr at ht
  split at ht
  · rename_i c k pos
    refine ⟨?_, rfl⟩
    have fin : ∀ {v : V}, (∀ K H T, Rp K H T v d) → ∀ (σ : L2.St) (H : Hp) (Q : VK), rdE X.K XR W (ev call (.lit d)) σ H Q → Q v H := fun {v} hr σ H Q ⟨T, B, fps, e, f, q⟩ =>
      q v H T fps [] (.st .refl f (hr _ _ _))
    cases d with
    | none => cases c <;> first | (cases ht; done) | exact PE.imp pe_non fun σ H Q q => fin (fun _ _ _ => .non) σ H Q q
    | bool a => cases c <;> first | (cases ht; done) | (obtain rfl := eq_of_beq ht; exact PE.imp pe_bl fun σ H Q q => fin (fun _ _ _ => .bl _) σ H Q q)
    | int a => cases c <;> first | (cases ht; done) | (obtain rfl := eq_of_beq ht; exact PE.imp pe_int fun σ H Q q => fin (fun _ _ _ => .int _) σ H Q q)
    | str a => cases c <;> first | (cases ht; done) | (obtain rfl := of_decide_eq_true ht; exact PE.imp pe_str fun σ H Q q => fin (fun _ _ _ => .str _) σ H Q q)
    | _ => cases c <;> cases ht
  · cases ht
theorem ev_glo (g : String) : EvP call XR n (.glo g) := EvP.plain (fun _ z => nomatch z) fun X W G x ht => by
  unfold tr at ht
  split at ht
  · rename_i y pos
    obtain ⟨rfl, hg, hd⟩ := gl_of ht
    cases hc : call.con g with
    | none =>
      refine ⟨⟨fun pins s σ H Q I ⟨T, B, fps, e, f, q⟩ => ?_⟩, rfl⟩
      have q : OutOk (ev call (.glo g) e) _ _ := q
      unfold ev at q
      rw [hc] at q
      exact q.elim
    | some d =>
      obtain ⟨v, u, hm, r, hr⟩ := G.con g d hc
      refine ⟨PE.imp (pe_glob hg hm r hd) fun σ H Q ⟨T, B, fps, e, f, q⟩ => ?_, rfl⟩
      have q : OutOk (ev call (.glo g) e) _ _ := q
      unfold ev at q
      rw [hc] at q
      exact q v H T fps [] (.st .refl f (hr _ _))
  · cases ht
theorem ev_var (i : Nat) : EvP call XR n (.var i) := EvP.plain (fun _ z => nomatch z) fun X W G x ht => by
  unfold tr at ht
  split at ht
  · refine ⟨PE.imp (pe_name ht) fun σ H Q ⟨T, B, fps, e, f, q⟩ => ?_, rfl⟩
    obtain ⟨⟨d, s⟩, hf, q⟩ := (OutOk.bind q).of_lift
    obtain ⟨v, T', fps', hv, x', f', rp⟩ := f.freeze hf
    exact ⟨v, hv, q v H T' fps' [] (.st x' f' rp)⟩
  · cases ht
theorem ev_pk (i : Nat) : EvP call XR n (.pk i) := fun X W G x ht => by
  unfold tr at ht
  split at ht
  · rename_i y pos
    have h : PE X (.Name y pos) (rdL X.K XR W (.pk i) (ev call (.pk i))) := PE.imp (pe_name ht) fun σ H Q ⟨T, B, fps, e, f, q⟩ => by
      obtain ⟨r, hr, q⟩ := q.of_lift
      obtain ⟨v, hv, rr⟩ := f.look hr
      exact ⟨v, hv, q v H T fps [] ⟨.refl, f, rr, List.nodup_nil, fun _ z => nomatch z⟩ fun j z => by cases z; exact hv⟩
    exact ⟨h, pt_plain rfl (PE.ofL h), fun z => nomatch z⟩
  · cases ht
theorem ev_bin (o : BOp) (ha : EvP call XR n a) (hb : EvP call XR n b) : EvP call XR n (.bin o a b) := EvP.plain (fun _ z => nomatch z) fun X W G x ht => by
  unfold tr at ht
  split at ht
  · simp only [Bool.and_eq_true, decide_eq_true_eq] at ht
    obtain ⟨⟨rfl, h1⟩, h2⟩ := ht
    obtain ⟨r, ho, hr⟩ := bin_ok (X := X) (XR := XR) (W := W) o
    refine ⟨PE.imp (pe_op ho (ha.pv G h1) (hb.pv G h2)) fun σ H Q q => ?_, rfl⟩
    exact rd2V q fun B H T fps e0 x y v u e H' T' fps' f0 xx ff rx ry z => hr H Q σ B T T' H' fps fps' e x y v u xx ff rx ry z
  · cases ht
theorem ev_neg (ha : EvP call XR n a) : EvP call XR n (.neg a) := EvP.plain (fun _ z => nomatch z) fun X W G x ht => by
  unfold tr at ht
  split at ht
  · refine ⟨PE.imp (pe_un un_neg (ha.pi G ht)) fun σ H Q q => ?_, rfl⟩
    exact rd1I q fun B T fps e0 i e H' T' fps' f0 xx ff z => ⟨i, rfl, done_st z xx ff (.int _)⟩
  · cases ht
theorem ev_inv (ha : EvP call XR n a) : EvP call XR n (.inv a) := EvP.plain (fun _ z => nomatch z) fun X W G x ht => by
  unfold tr at ht
  split at ht
  · refine ⟨PE.imp (pe_un un_inv (ha.pi G ht)) fun σ H Q q => ?_, rfl⟩
    exact rd1I q fun B T fps e0 i e H' T' fps' f0 xx ff z => ⟨i, rfl, done_st z xx ff (.int _)⟩
  · cases ht
/-- the test of .not -/
theorem not_out {P : Bool → Env → Prop} {E : Exn → Env → Prop} {e : Env} (h : OutOk (truthOf (ev call (.not a) e)) P E) : OutOk (truthOf (ev call a e)) (fun k e => P (!k) e) E := by
  exact ((OutOk.bind (OutOk.bind h))).mono (fun k e' q => q) fun _ _ q => q
theorem ev_not (ha : EvP call XR n a) : EvP call XR n (.not a) := fun X W G x ht => by
  unfold tr at ht
  split at ht
  · rename_i y pos
    have hp : PE X (.UnaryOp .Not y pos) (rdE X.K XR W (ev call (.not a))) := PE.imp (pe_notT (ha.pe G ht)) fun σ H Q ⟨T, B, fps, e, f, q⟩ => by
      refine rdT_of ⟨T, B, fps, e, f, (OutOk.bind q).mono (fun k e' q H' T' fps' x' f' => ?_) fun _ _ q => q⟩
      exact done_st q x' f' (.bl _)
    refine ⟨PE.toL (fun _ z => nomatch z) hp, PT.imp (pt_not (ha.pt G ht)) fun σ H Q ⟨T, B, fps, e, f, q⟩ => ⟨T, B, fps, e, f, (not_out q).mono (fun k e' q => q) fun _ _ q => q⟩, fun z => nomatch z⟩
  · cases ht
theorem R.val_d {r : R} {d : D} (h : r.val = some d) : r.d = d := by
  cases r with
  | st d' => cases h; rfl
  | fr xs => cases h; rfl
  | own xs => cases h
  | own2 xs => cases h
  | bor d' =>
    simp only [R.val] at h
    split at h
    · cases h; rfl
    · cases h
theorem OutOk.of_bind {α β : Type} {o : Out α} {f : α → Env → Out β} {P : β → Env → Prop} {E : Exn → Env → Prop} (h : OutOk o (fun a e => OutOk (f a e) P E) E) : OutOk (o.bind f) P E := by
  cases o <;> exact h
theorem OutOk.lift_ok {α : Type} {e : Env} {x : Option α} {a : α} {P : α → Env → Prop} {E : Exn → Env → Prop} (h : x = some a) (q : P a e) : OutOk (lift e x) P E := by
  subst h; exact q
theorem and_out {P : Bool → Env → Prop} {E : Exn → Env → Prop} {e : Env} (h : OutOk (truthOf (ev call (.and a b) e)) P E) : OutOk (truthOf (ev call a e)) (fun k e1 => if k = true then OutOk (truthOf (ev call b e1)) P E else P false e1) E := by
  refine OutOk.of_bind ((OutOk.bind (OutOk.bind (OutOk.bind h))).mono (fun r e' q => ?_) fun _ _ q => q)
  obtain ⟨d, hd, q⟩ := q.of_lift
  obtain ⟨k, hk, q⟩ := (OutOk.bind q).of_lift
  refine OutOk.lift_ok (by rw [R.val_d hd]; exact hk) ?_
  cases k with
  | true =>
    rw [if_pos rfl] at q ⊢
    exact OutOk.of_bind q
  | false =>
    rw [if_neg Bool.false_ne_true] at q ⊢
    obtain ⟨k', hk', q⟩ := q.of_lift
    rw [show truthy (R.st d).d = some false from hk] at hk'
    cases hk'
    exact q
theorem or_out {P : Bool → Env → Prop} {E : Exn → Env → Prop} {e : Env} (h : OutOk (truthOf (ev call (.or a b) e)) P E) : OutOk (truthOf (ev call a e)) (fun k e1 => if k = true then P true e1 else OutOk (truthOf (ev call b e1)) P E) E := by
  refine OutOk.of_bind ((OutOk.bind (OutOk.bind (OutOk.bind h))).mono (fun r e' q => ?_) fun _ _ q => q)
  obtain ⟨d, hd, q⟩ := q.of_lift
  obtain ⟨k, hk, q⟩ := (OutOk.bind q).of_lift
  refine OutOk.lift_ok (by rw [R.val_d hd]; exact hk) ?_
  cases k with
  | false =>
    rw [if_neg Bool.false_ne_true] at q ⊢
    exact OutOk.of_bind q
  | true =>
    rw [if_pos rfl] at q ⊢
    obtain ⟨k', hk', q⟩ := q.of_lift
    rw [show truthy (R.st d).d = some true from hk] at hk'
    cases hk'
    exact q
theorem rdT_bind {X : Cx} {W : WX} {t u : Env → Out Bool} {σ : L2.St} {H : Hp} {Q : Bool → Hp → Prop} {B T : Addr → Prop} {fps : Nat → List Addr} {e : Env} {z : Bool} (f : Fm X.K H T B fps σ e)
    (h : OutOk (t e) (fun k e1 => if k = z then OutOk (u e1) (fun b e' => ∀ H' T' fps', Ext B H T fps H' T' fps' → Fm X.K H' T' B fps' σ e' → Q b H') (eArm X.K XR W B H T fps σ) else (∀ H' T' fps', Ext B H T fps H' T' fps' → Fm X.K H' T' B fps' σ e1 → Q k H')) (eArm X.K XR W B H T fps σ)) :
    rdT X.K XR W t σ H fun k H1 => if k = z then rdT X.K XR W u σ H1 Q else Q k H1 := by
  refine ⟨T, B, fps, e, f, h.mono (fun k e1 q H1 T1 fps1 x1 f1 => ?_) fun _ _ q => q⟩
  by_cases hk : k = z
  · rw [if_pos hk] at q ⊢
    exact ⟨T1, B, fps1, e1, f1, q.mono (fun b e' q H' T' fps' x' f' => q H' T' fps' (x1.trans x') f') fun _ _ q => q.trans x1⟩
  · rw [if_neg hk] at q ⊢
    exact q H1 T1 fps1 x1 f1
end
end MP
end

section
set_option autoImplicit false
set_option linter.all false
set_option maxRecDepth 100000
/-! Soundness of expressions, 5: and, or, comparisons, subscripts, displays. -/
namespace MP
open PySem PySem.Spec PyProof.Rows L2

section
variable {K : PySem.W.Frag} {H : Hp} {T : Addr → Prop} {kl : Prop}
mutual
theorem Rq.weak : ∀ {d : D} {v : V}, Rq K H T False v d → Rq K H T kl v d
  | .none, _, h => by cases h; exact .non
  | .bool _, _, h => by cases h; exact .bl _
  | .int _, _, h => by cases h; exact .int _
  | .str _, _, h => by cases h; exact .str _
  | .list _, _, h => by
    cases h with
    | lst hs ha => exact .lst (hs.imp id fun z => z.1.elim) (RqAll.weak ha)
  | .tuple _, _, h => by
    cases h with
    | tup hs ha => exact .tup hs (RqAll.weak ha)
  | .dict _, _, h => by cases h
theorem RqAll.weak : ∀ {ds : List D} {vs : List V}, RqAll K H T False vs ds → RqAll K H T kl vs ds
  | [], _, h => by cases h; exact .nil
  | _ :: _, _, h => by
    cases h with
    | cons h1 h2 => exact .cons (Rq.weak h1) (RqAll.weak h2)
end
end
/-- no slice, no star, no set, no super() -/
def plainX : Expr → Bool
  | .Slice .. => false
  | .Starred .. => false
  | .Set .. => false
  | .Call (.Name _ _) [] [] _ => false
  | _ => true
theorem tr_plainX {N : List Str} {m : Ex} {sc : Scope} {x : Expr} (h : tr N m sc x = true) : plainX x = true := by
  cases x with
  | Slice a b c p => cases m <;> (unfold tr at h; cases h)
  | Starred a p => cases m <;> (unfold tr at h; cases h)
  | Set a k p => cases m <;> (unfold tr at h; cases h)
  | Call f as ks p =>
    cases f with
    | Name g q =>
      cases as with
      | nil =>
        cases ks with
        | nil => cases m <;> (unfold tr at h; cases h)
        | cons _ _ => rfl
      | cons _ _ => rfl
    | _ => rfl
  | _ => rfl
theorem plainX_ix {b : Expr} (h : plainX b = true) : PlainIx b := by
  cases b <;> first | (cases h; done) | (intro o i; rfl)
theorem plainX_star {e : Expr} (h : plainX e = true) (es : List Expr) (env : PySem.Env) : starEach (e :: es) env = (false, eval e env) :: starEach es env := by
  cases e <;> first | (cases h; done) | rfl
theorem plainX_in {b : Expr} {op : CmpOp} (h : plainX b = true) : behindInMarks op b = false := by
  cases b <;> first | (cases h; done) | rfl
theorem plainX_base {o : Expr} (h : plainX o = true) (a : Str) (env : PySem.Env) (w : Sem Value) : attributeBase o a env w = w := by
  cases o with
  | Call f as ks p =>
    cases f with
    | Name g q =>
      cases as with
      | nil =>
        cases ks with
        | nil => cases h
        | cons _ _ => rfl
      | cons _ _ => rfl
    | _ => rfl
  | _ => rfl
theorem PW.imp {X : Cx} {x : Expr} {t t' : TT} (h : PW X x t) (hi : ∀ σ H Q, t' σ H Q → t σ H Q) : PW X x t' := ⟨fun wh pins s σ H Q I hw => h.run wh pins s σ H Q I (hi σ H Q hw)⟩
theorem PA.imp {X : Cx} {x : List Expr} {t t' : TA} (h : PA X x t) (hi : ∀ σ H Q, t' σ H Q → t σ H Q) : PA X x t' := ⟨fun pos pins s σ H Q I hw => h.run pos pins s σ H Q I (hi σ H Q hw)⟩
theorem PO.imp {X : Cx} {x : Option Expr} {t t' : TO} (h : PO X x t) (hi : ∀ σ H Q, t' σ H Q → t σ H Q) : PO X x t' := ⟨fun pins s σ H Q I hw => h.run pins s σ H Q I (hi σ H Q hw)⟩
def tIfT (t a b : TT) : TT := fun σ H Q => t σ H fun c H1 => if c = true then a σ H1 Q else b σ H1 Q
theorem pt_ifExp {X : Cx} {c a b : Expr} {t ta tb : TT} {pos : Pos} (hc : PT X c t) (ha : PT X a ta) (hb : PT X b tb) : PT X (.IfExp c a b pos) (tIfT t ta tb) := by
  refine ⟨fun pins s σ H Q I h => ?_⟩
  refine isTrue_IfExp (thn (hc.run pins s σ H _ I h) fun d s1 ⟨H1, I1, q1⟩ => ?_)
  cases d with
  | true => exact ha.run pins s1 σ H1 Q I1 q1
  | false => exact hb.run pins s1 σ H1 Q I1 q1
/-- a list of answers -/
def rdVs (K : PySem.W.Frag) (XR : XRel) (W : WX) (o : Env → Out (List D)) : TA := fun σ H Q => ∃ T B fps e, Fm K H T B fps σ e ∧ OutOk (o e) (fun ds e' => ∀ vs H' T' fps', Ext B H T fps H' T' fps' → Fm K H' T' B fps' σ e' → RpAll K H' T' vs ds → Q vs H') (eArm K XR W B H T fps σ)
def EvsP (call : CallF) (XR : XRel) (n : Nat) (es : Exs) : Prop := ∀ (X : Cx) (W : WX), Gd X call XR W n → ∀ xs : List Expr, trs X.N es X.env.scope xs = true → PA X xs (rdVs X.K XR W (evs call es))
section
variable {call : CallF} {XR : XRel} {n : Nat} {a b c : Ex} {es : Exs}
theorem evs_nil : EvsP call XR n .nil := fun X W G xs ht => by
  unfold trs at ht
  cases xs with
  | nil => exact PA.imp pa_nil fun σ H Q ⟨T, B, fps, e, f, q⟩ => q [] H T fps .refl f .nil
  | cons _ _ => cases ht
theorem evs_cons (ha : EvP call XR n a) (hr : EvsP call XR n es) : EvsP call XR n (.cons a es) := fun X W G xs ht => by
  unfold trs at ht
  split at ht
  · simp only [Bool.and_eq_true] at ht
    refine PA.imp (pa_cons (ha.pv G ht.1) (hr X W G _ ht.2) (plainX_star (tr_plainX ht.1) _ _)) fun σ H Q ⟨T, B, fps, e, f, q⟩ => ?_
    refine ⟨T, B, fps, e, f, (OutOk.bind q).mono (fun d e1 q v H1 T1 fps1 x1 f1 r1 => ?_) fun _ _ q => q⟩
    refine ⟨T1, B, fps1, e1, f1, (OutOk.bind q).mono (fun ds e2 q vs H2 T2 fps2 x2 f2 r2 => ?_) fun _ _ q => q.trans x1⟩
    exact q _ H2 T2 fps2 (x1.trans x2) f2 (.cons (r1.keep x2.kept) r2)
  · cases ht
theorem OutOk.of_if {α : Type} {c : Bool} {o : Out α} {P : α → Env → Prop} {E : Exn → Env → Prop} (h : OutOk (if c = true then o else .bad) P E) : c = true ∧ OutOk o P E := by
  cases c with
  | true => exact ⟨rfl, h⟩
  | false => exact h.elim
theorem OutOk.of_ifP {α : Type} {c : Prop} [Decidable c] {o : Out α} {P : α → Env → Prop} {E : Exn → Env → Prop} (h : OutOk (if c then o else .bad) P E) : c ∧ OutOk o P E := by
  by_cases q : c
  · rw [if_pos q] at h; exact ⟨q, h⟩
  · rw [if_neg q] at h; exact h.elim
theorem ev_tup (hs : EvsP call XR n es) : EvP call XR n (.tup es) := EvP.plain (fun _ z => nomatch z) fun X W G x ht => by
  unfold tr at ht
  split at ht
  · refine ⟨PE.imp (pe_tupF (hs X W G _ ht)) fun σ H Q ⟨T, B, fps, e, f, q⟩ => ?_, rfl⟩
    refine ⟨T, B, fps, e, f, (OutOk.bind q).mono (fun ds e1 q vs H1 T1 fps1 x1 f1 r1 => ?_) fun _ _ q => q⟩
    obtain ⟨hz, q⟩ := q.of_ifP
    exact ⟨by rw [r1.length, ← line_eq]; exact hz, done_tup q x1 f1 r1⟩
  · cases ht
theorem ev_lst (hs : EvsP call XR n es) : EvP call XR n (.lst es) := EvP.plain (fun _ z => nomatch z) fun X W G x ht => by
  unfold tr at ht
  split at ht
  · refine ⟨PE.imp (pe_lst (hs X W G _ ht)) fun σ H Q ⟨T, B, fps, e, f, q⟩ => ?_, rfl⟩
    refine ⟨T, B, fps, e, f, (OutOk.bind q).mono (fun ds e1 q vs H1 T1 fps1 x1 f1 r1 => ?_) fun _ _ q => q⟩
    obtain ⟨hz, q⟩ := q.of_ifP
    exact ⟨by rw [r1.length, ← line_eq]; exact hz, done_lst q x1 f1 r1⟩
  · cases ht
/-! ### and, or -/
/-- the tail of an and, an or -/
theorem bool_tail {X : Cx} {W : WX} {op : BoolOp} {z : Expr} {rest : List Expr} {pos : Pos} (hb : EvP call XR n b) (G : Gd X call XR W n) (ht : (match rest with | [] => tr X.N b X.env.scope z | _ :: _ => tr X.N b X.env.scope (.BoolOp op (z :: rest) pos)) = true) :
    PE X (.BoolOp op (z :: rest) pos) (rdE X.K XR W (ev call b)) ∧ PW X (.BoolOp op (z :: rest) pos) (rdT X.K XR W fun e => truthOf (ev call b e)) := by
  cases rest with
  | nil =>
    refine ⟨pe_one (hb.pe G ht), ?_⟩
    cases op with
    | And => exact pw_and1 (hb.pt G ht)
    | Or => exact pw_or1 (hb.pt G ht)
  | cons y ys => exact ⟨hb.pe G ht, (hb X W G _ ht).2.2 rfl⟩
theorem ev_and (ha : EvP call XR n a) (hb : EvP call XR n b) : EvP call XR n (.and a b) := fun X W G x ht => by
  unfold tr at ht
  split at ht
  · rename_i y z rest pos
    rw [Bool.and_eq_true] at ht
    obtain ⟨t1, t2⟩ := bool_tail (op := .And) (pos := pos) hb G ht.2
    have hp : PE X (.BoolOp .And (y :: z :: rest) pos) (rdE X.K XR W (ev call (.and a b))) := PE.imp (pe_andT (ha.pe G ht.1) t1) fun σ H Q ⟨T, B, fps, e, f, q⟩ => by
      refine rdV_of ⟨T, B, fps, e, f, (OutOk.bind q).mono (fun d e1 q v H1 T1 fps1 x1 f1 r1 => ?_) fun _ _ q => q⟩
      obtain ⟨k, hk, q⟩ := (OutOk.bind q).of_lift
      refine ⟨k, Rp.tru r1 hk, ?_⟩
      cases k with
      | true => exact ⟨T1, B, fps1, e1, f1, q.mono (fun r e' q w H2 T2 fps2 fp p => q w H2 T2 fps2 fp (Ps.trans x1 p)) fun _ _ q => q.trans x1⟩
      | false => exact done_st q x1 f1 r1
    have hw : PW X (.BoolOp .And (y :: z :: rest) pos) (rdT X.K XR W fun e => truthOf (ev call (.and a b) e)) := PW.imp (pw_and (ha.pt G ht.1) t2) fun σ H Q ⟨T, B, fps, e, f, q⟩ => by
      refine ⟨T, B, fps, e, f, (and_out q).mono (fun k e1 q H1 T1 fps1 x1 f1 => ?_) fun _ _ q => q⟩
      cases k with
      | true => exact ⟨T1, B, fps1, e1, f1, q.mono (fun b e' q H' T' fps' x' f' => q H' T' fps' (x1.trans x') f') fun _ _ q => q.trans x1⟩
      | false => exact q H1 T1 fps1 x1 f1
    exact ⟨PE.toL (fun _ z => nomatch z) hp, hw.pt, fun _ => hw⟩
  · cases ht
theorem ev_or (ha : EvP call XR n a) (hb : EvP call XR n b) : EvP call XR n (.or a b) := fun X W G x ht => by
  unfold tr at ht
  split at ht
  · rename_i y z rest pos
    rw [Bool.and_eq_true] at ht
    obtain ⟨t1, t2⟩ := bool_tail (op := .Or) (pos := pos) hb G ht.2
    have hp : PE X (.BoolOp .Or (y :: z :: rest) pos) (rdE X.K XR W (ev call (.or a b))) := PE.imp (pe_orT (ha.pe G ht.1) t1) fun σ H Q ⟨T, B, fps, e, f, q⟩ => by
      refine rdV_of ⟨T, B, fps, e, f, (OutOk.bind q).mono (fun d e1 q v H1 T1 fps1 x1 f1 r1 => ?_) fun _ _ q => q⟩
      obtain ⟨k, hk, q⟩ := (OutOk.bind q).of_lift
      refine ⟨k, Rp.tru r1 hk, ?_⟩
      cases k with
      | false => exact ⟨T1, B, fps1, e1, f1, q.mono (fun r e' q w H2 T2 fps2 fp p => q w H2 T2 fps2 fp (Ps.trans x1 p)) fun _ _ q => q.trans x1⟩
      | true => exact done_st q x1 f1 r1
    have hw : PW X (.BoolOp .Or (y :: z :: rest) pos) (rdT X.K XR W fun e => truthOf (ev call (.or a b) e)) := PW.imp (pw_or (ha.pt G ht.1) t2) fun σ H Q ⟨T, B, fps, e, f, q⟩ => by
      refine ⟨T, B, fps, e, f, (or_out q).mono (fun k e1 q H1 T1 fps1 x1 f1 => ?_) fun _ _ q => q⟩
      cases k with
      | false => exact ⟨T1, B, fps1, e1, f1, q.mono (fun b e' q H' T' fps' x' f' => q H' T' fps' (x1.trans x') f') fun _ _ q => q.trans x1⟩
      | true => exact q H1 T1 fps1 x1 f1
    exact ⟨PE.toL (fun _ z => nomatch z) hp, hw.pt, fun _ => hw⟩
  · cases ht
theorem ev_ife (hc : EvP call XR n c) (ha : EvP call XR n a) (hb : EvP call XR n b) : EvP call XR n (.ife c a b) := fun X W G x ht => by
  unfold tr at ht
  split at ht
  · rename_i w y z pos
    simp only [Bool.and_eq_true] at ht
    obtain ⟨⟨h1, h2⟩, h3⟩ := ht
    have hp : PE X (.IfExp w y z pos) (rdE X.K XR W (ev call (.ife c a b))) := PE.imp (pe_ifExp (hc.pt G h1) (ha.pe G h2) (hb.pe G h3)) fun σ H Q ⟨T, B, fps, e, f, q⟩ => by
      refine ⟨T, B, fps, e, f, (OutOk.bind q).mono (fun k e1 q H1 T1 fps1 x1 f1 => ?_) fun _ _ q => q⟩
      cases k with
      | true => exact ⟨T1, B, fps1, e1, f1, q.mono (fun r e' q w H2 T2 fps2 fp p => q w H2 T2 fps2 fp (Ps.trans x1 p)) fun _ _ q => q.trans x1⟩
      | false => exact ⟨T1, B, fps1, e1, f1, q.mono (fun r e' q w H2 T2 fps2 fp p => q w H2 T2 fps2 fp (Ps.trans x1 p)) fun _ _ q => q.trans x1⟩
    refine ⟨PE.toL (fun _ z => nomatch z) hp, PT.imp (pt_ifExp (hc.pt G h1) (ha.pt G h2) (hb.pt G h3)) fun σ H Q ⟨T, B, fps, e, f, q⟩ => ?_, fun z => nomatch z⟩
    refine ⟨T, B, fps, e, f, (OutOk.bind (OutOk.bind q)).mono (fun k e1 q H1 T1 fps1 x1 f1 => ?_) fun _ _ q => q⟩
    cases k with
    | true => exact ⟨T1, B, fps1, e1, f1, OutOk.mono (OutOk.of_bind q) (fun b e' q H' T' fps' x' f' => q H' T' fps' (x1.trans x') f') fun _ _ q => q.trans x1⟩
    | false => exact ⟨T1, B, fps1, e1, f1, OutOk.mono (OutOk.of_bind q) (fun b e' q H' T' fps' x' f' => q H' T' fps' (x1.trans x') f') fun _ _ q => q.trans x1⟩
  · cases ht
/-! ### comparisons -/
theorem OutOk.and_all {α : Type} {o : Out α} {P : α → Env → Prop} {E : Exn → Env → Prop} (S : α → Prop) (h : OutOk o P E) (hs : ∀ r e, o = .ok r e → S r) : OutOk o (fun r e => S r ∧ P r e) E := by
  cases o with
  | ok r e => exact ⟨hs r e rfl, h⟩
  | exc x e => exact h
  | bad => exact h
theorem Out.bind_ok {α β : Type} {o : Out α} {f : α → Env → Out β} {r : β} {e : Env} (h : o.bind f = .ok r e) : ∃ a e1, o = .ok a e1 ∧ f a e1 = .ok r e := by
  cases o with
  | ok a e1 => exact ⟨a, e1, rfl, h⟩
  | exc x e1 => cases h
  | bad => cases h
/-- an answer that is a bool, as a test -/
theorem rdT_bl {K : PySem.W.Frag} {W : WX} {o : Env → Out R} {σ : L2.St} {H : Hp} {Q : Bool → Hp → Prop} (hs : ∀ e r e', o e = .ok r e' → ∃ c, r = .st (.bool c)) (h : rdT K XR W (fun e => truthOf (o e)) σ H Q) : rdE K XR W o σ H fun x H1 => ∃ k, x = .bl k ∧ Q k H1 := by
  obtain ⟨T, B, fps, e, f, h⟩ := h
  refine ⟨T, B, fps, e, f, ((OutOk.bind h).and_all _ (hs e)).mono (fun r e' q v H' T' fps' fp p => ?_) fun _ _ q => q⟩
  obtain ⟨⟨c, rfl⟩, q⟩ := q
  have h1 := p.rr.2
  cases h1
  exact ⟨c, rfl, q H' T' fps' p.ext p.fm⟩
theorem ev_cmp (o : COp) (ha : EvP call XR n a) (hb : EvP call XR n b) : EvP call XR n (.cmp o a b) := fun X W G x ht => by
  unfold tr at ht
  split at ht
  · rename_i y op z pos
    simp only [Bool.and_eq_true, decide_eq_true_eq] at ht
    obtain ⟨⟨rfl, h1⟩, h2⟩ := ht
    have rd : ∀ (σ : L2.St) (H : Hp) (Q : VK), rdE X.K XR W (ev call (.cmp o a b)) σ H Q → tOp (rCmpD X.K o) (rdL X.K XR W a (ev call a)) (rdE X.K XR W (ev call b)) σ H Q := fun σ H Q ⟨T, B, fps, e, f, q⟩ => by
      refine ⟨T, B, fps, e, f, (OutOk.bind q).mono (fun ra e1 q v H1 T1 fps1 fp1 p1 hv => ?_) fun _ _ q => q⟩
      refine ⟨T1, B, fps1, e1, p1.fm, (OutOk.bind q).mono (fun rb e2 q u H2 T2 fps2 fp2 p2 => ?_) fun _ _ q => q.trans p1.ext⟩
      obtain ⟨r, hr, q⟩ := (OutOk.bind q).of_lift
      obtain ⟨k, hk, q⟩ := (OutOk.bind q).of_lift
      obtain ⟨fp', p3⟩ := later_ok p1 hv p2.ext p2.fm hr
      exact ⟨_, _, k, p3.rr.dp, p2.rr.dp, hk, done_st q (p1.ext.trans p2.ext) p2.fm (.bl _)⟩
    have hm := plainX_in (op := copOf o) (tr_plainX h2)
    refine ⟨PE.toL (fun _ z => nomatch z) (PE.imp (pe_cmpR (op_cmpD G.hu o) (ha.pl G h1) (hb.pe G h2) hm) rd), PT.imp (pt_cmpR (op_cmpD G.hu o) (ha.pl G h1) (hb.pe G h2) hm) fun σ H Q q => rd σ H _ (rdT_bl (fun e r e' h => ?_) q), fun z => nomatch z⟩
    obtain ⟨_, _, _, h⟩ := Out.bind_ok h
    obtain ⟨_, _, _, h⟩ := Out.bind_ok h
    obtain ⟨_, _, _, h⟩ := Out.bind_ok h
    obtain ⟨c, _, _, h⟩ := Out.bind_ok h
    cases h
    exact ⟨c, rfl⟩
  · cases ht
theorem ev_chain (o p : COp) (ha : EvP call XR n a) (hb : EvP call XR n b) (hc : EvP call XR n c) : EvP call XR n (.chain o p a b c) := fun X W G x ht => by
  unfold tr at ht
  split at ht
  · rename_i y op oq z w pos
    simp only [Bool.and_eq_true, decide_eq_true_eq] at ht
    obtain ⟨⟨⟨⟨rfl, rfl⟩, h1⟩, h2⟩, h3⟩ := ht
    have rd : ∀ (σ : L2.St) (H : Hp) (Q : VK), rdE X.K XR W (ev call (.chain o p a b c)) σ H Q → tChain (rCmpD X.K o) (rCmpD X.K p) (rdV X.K XR W fun e => valOf (ev call a e)) (rdV X.K XR W fun e => valOf (ev call b e)) (rdV X.K XR W fun e => valOf (ev call c e)) σ H Q := fun σ H Q ⟨T, B, fps, e, f, q⟩ => by
      refine ⟨T, B, fps, e, f, (OutOk.bind q).mono (fun da e1 q v H1 T1 fps1 x1 f1 r1 => ?_) fun _ _ q => q⟩
      refine ⟨T1, B, fps1, e1, f1, (OutOk.bind q).mono (fun db e2 q u H2 T2 fps2 x2 f2 r2 => ?_) fun _ _ q => q.trans x1⟩
      obtain ⟨k, hk, q⟩ := (OutOk.bind q).of_lift
      refine ⟨_, _, k, (r1.keep x2.kept).dp, r2.dp, hk, k, rfl, ?_⟩
      cases k with
      | true =>
        refine ⟨T2, B, fps2, e2, f2, (OutOk.bind q).mono (fun dc e3 q w H3 T3 fps3 x3 f3 r3 => ?_) fun _ _ q => q.trans (x1.trans x2)⟩
        obtain ⟨k, hk, q⟩ := (OutOk.bind q).of_lift
        exact ⟨_, _, k, (r2.keep x3.kept).dp, r3.dp, hk, done_st q ((x1.trans x2).trans x3) f3 (.bl _)⟩
      | false => exact done_st q (x1.trans x2) f2 (.bl _)
    have hm : lastMarks [copOf o, copOf p] [z, w] = false := plainX_in (op := copOf p) (tr_plainX h3)
    refine ⟨PE.toL (fun _ z => nomatch z) (PE.imp (pe_chain (op_cmpD G.hu o) (op_cmpD G.hu p) (ha.pv G h1) (hb.pv G h2) (hc.pv G h3) hm) rd), PT.imp (pt_chain (op_cmpD G.hu o) (op_cmpD G.hu p) (ha.pv G h1) (hb.pv G h2) (hc.pv G h3) hm) fun σ H Q q => rd σ H _ (rdT_bl (fun e r e' h => ?_) q), fun z => nomatch z⟩
    obtain ⟨_, _, _, h⟩ := Out.bind_ok h
    obtain ⟨_, _, _, h⟩ := Out.bind_ok h
    obtain ⟨k, _, _, h⟩ := Out.bind_ok h
    cases k with
    | true =>
      obtain ⟨_, _, _, h⟩ := Out.bind_ok h
      obtain ⟨k, _, _, h⟩ := Out.bind_ok h
      cases h
      exact ⟨k, rfl⟩
    | false => cases h; exact ⟨false, rfl⟩
  · cases ht
/-! ### subscripts -/
theorem Rq.seq {K : PySem.W.Frag} {H : Hp} {T : Addr → Prop} {kl : Prop} {v : V} {d : D} {xs : List D} (h : Rq K H T kl v d) (e : items d = some xs) : ∃ p vs, v = .ref p ∧ (SqL K H p vs ∨ SqT K H p vs) ∧ RqAll K H T kl vs xs := by
  cases h with
  | lst hs ha => cases e; exact ⟨_, _, rfl, .inl (hs.imp And.right And.right), ha⟩
  | tup hs ha => cases e; exact ⟨_, _, rfl, .inr hs.sq, ha⟩
  | _ => cases e
theorem RqAll.atI {K : PySem.W.Frag} {H : Hp} {T : Addr → Prop} {kl : Prop} {vs : List V} {xs : List D} {k : Int} {d : D} (h : RqAll K H T kl vs xs) (e : MP.atI xs k = some d) : ∃ w, L2.atI vs k = some w ∧ Rq K H T kl w d := by
  unfold MP.atI at e
  obtain ⟨j, hj, e⟩ := Option.bind_eq_some_iff.mp e
  obtain ⟨w, h1, h2⟩ := h.get e
  refine ⟨w, ?_, h2⟩
  unfold L2.atI
  rw [h.length, show L2.ixN xs.length k = some j from hj]
  exact h1
theorem OwnAll.get {K : PySem.W.Frag} {H : Hp} {T : Addr → Prop} {as : List Addr} {xss : List (List D)} {i : Nat} {xs : List D} (h : OwnAll K H T as xss) (e : xss[i]? = some xs) : ∃ a vs, as[i]? = some a ∧ H a = some (.lst vs) ∧ RpAll K H T vs xs := by
  induction h generalizing i with
  | nil => simp at e
  | cons h1 h2 _ ih =>
    cases i with
    | zero => simp at e; subst e; exact ⟨_, _, rfl, h1, h2⟩
    | succ i => exact ih (i := i) (by simpa using e)
theorem RR.item {K : PySem.W.Frag} {H : Hp} {T B : Addr → Prop} {v : V} {r r' : R} {fp : List Addr} {k : Int} (h : RR K H T B v r fp) (e : itemAt r k = some r') : ∃ p vs w, v = .ref p ∧ (SqL K H p vs ∨ SqT K H p vs) ∧ L2.atI vs k = some w ∧ RR K H T B w r' [] := by
  unfold itemAt at e
  obtain ⟨xs, hx, e⟩ := Option.bind_eq_some_iff.mp e
  obtain ⟨d, hd, rfl⟩ := Option.map_eq_some_iff.mp e
  cases r with
  | st d' =>
    obtain ⟨p, vs, rfl, h1, h2⟩ := Rq.seq h.2 hx
    obtain ⟨w, h3, h4⟩ := h2.atI hd
    exact ⟨p, vs, w, rfl, h1, h3, rfl, h4⟩
  | bor d' =>
    obtain ⟨p, vs, rfl, h1, h2⟩ := Rq.seq h.2 hx
    obtain ⟨w, h3, h4⟩ := h2.atI hd
    exact ⟨p, vs, w, rfl, h1, h3, rfl, h4⟩
  | fr ys =>
    cases hx
    obtain ⟨a, vs, rfl, _, h1, h2⟩ := h
    obtain ⟨w, h3, h4⟩ := h2.atI hd
    exact ⟨a, vs, w, rfl, .inl (.inl (.inl h1)), h3, rfl, h4⟩
  | own ys =>
    cases hx
    obtain ⟨_, a, vs, rfl, h1, h2⟩ := h
    obtain ⟨w, h3, h4⟩ := h2.atI hd
    exact ⟨a, vs, w, rfl, .inl (.inl (.inl h1)), h3, rfl, h4⟩
  | own2 xss =>
    cases hx
    obtain ⟨_, a, as, rfl, h1, h2⟩ := h
    unfold MP.atI at hd
    obtain ⟨j, hj, hd⟩ := Option.bind_eq_some_iff.mp hd
    rw [List.getElem?_map] at hd
    obtain ⟨ys, hy, rfl⟩ := Option.map_eq_some_iff.mp hd
    obtain ⟨b, us, h3, h4, h5⟩ := h2.get hy
    refine ⟨a, _, .ref b, rfl, .inl (.inl (.inl h1)), ?_, rfl, b, us, rfl, h4, h5⟩
    unfold L2.atI
    rw [List.length_map, h2.length, ← List.length_map (f := PyData.list), show L2.ixN _ k = some j from hj]
    show (as.map V.ref)[j]? = _
    rw [List.getElem?_map, h3]; rfl
theorem ev_idx (ha : EvP call XR n a) (hb : EvP call XR n b) : EvP call XR n (.idx a b) := EvP.plain (fun _ z => nomatch z) fun X W G x ht => by
  unfold tr at ht
  split at ht
  · rw [Bool.and_eq_true] at ht
    refine ⟨PE.imp (pe_ix (ix_list.or ix_tup) (ha.pl G ht.1) (hb.pi G ht.2) (plainX_ix (tr_plainX ht.2))) fun σ H Q ⟨T, B, fps, e, f, q⟩ => ?_, rfl⟩
    refine ⟨T, B, fps, e, f, (OutOk.bind q).mono (fun ra e1 q v H1 T1 fps1 fp1 p1 hv => ?_) fun _ _ q => q⟩
    refine ⟨T1, B, fps1, e1, p1.fm, (OutOk.bind q).mono (fun k e2 q H2 T2 fps2 x2 f2 => ?_) fun _ _ q => q.trans p1.ext⟩
    obtain ⟨r, hr, q⟩ := (OutOk.bind q).of_lift
    obtain ⟨r', hr', q⟩ := q.of_lift
    obtain ⟨fp', p3⟩ := later_ok p1 hv x2 f2 hr
    obtain ⟨p, vs, w, rfl, h1, h2, h3⟩ := p3.rr.item hr'
    have fin : Q w H2 := q w H2 T2 fps2 [] ⟨p3.ext, p3.fm, h3, List.nodup_nil, fun _ z => nomatch z⟩
    rcases h1 with h1 | h1
    · exact .inl ⟨p, vs, k, w, rfl, rfl, h1, h2, fin⟩
    · exact .inr ⟨p, vs, k, w, rfl, rfl, h1, h2, fin⟩
  · cases ht
def rdO (K : PySem.W.Frag) (XR : XRel) (W : WX) (o : Env → Out D) : TO := fun σ H Q => ∃ T B fps e, Fm K H T B fps σ e ∧ OutOk (o e) (fun d e' => ∃ l, part d = some l ∧ ∀ H' T' fps', Ext B H T fps H' T' fps' → Fm K H' T' B fps' σ e' → Q l H') (eArm K XR W B H T fps σ)
theorem po_any {X : Cx} {W : WX} {x : Expr} (h : PE X x (rdE X.K XR W (ev call a))) : PO X (some x) (rdO X.K XR W fun e => valOf (ev call a e)) := by
  refine ⟨fun pins s σ H Q I hw => ?_⟩
  rw [evalPart_some]
  have hr : rdV X.K XR W (fun e => valOf (ev call a e)) σ H fun v H1 => (∃ i, v = .int i ∧ Q (some i) H1) ∨ (v = .non ∧ Q none H1) := by
    obtain ⟨T, B, fps, e, f, q⟩ := hw
    refine ⟨T, B, fps, e, f, q.mono (fun d e' q v H' T' fps' x' f' r' => ?_) fun _ _ q => q⟩
    obtain ⟨l, hl, q⟩ := q
    cases d with
    | none => cases hl; cases r'; exact .inr ⟨rfl, q H' T' fps' x' f'⟩
    | int i => cases hl; cases r'; exact .inl ⟨i, rfl, q H' T' fps' x' f'⟩
    | _ => cases hl
  refine thn (h.run pins s σ H _ I (rdV_of hr)) fun u s1 ⟨x, H1, I1, r1, q1⟩ => ?_
  rcases q1 with ⟨i, rfl, q⟩ | ⟨rfl, q⟩
  · obtain ⟨t, rfl⟩ := r1
    exact ⟨some i, H1, I1, .int i t, q⟩
  · cases r1
    exact ⟨none, H1, I1, .none, q⟩
theorem po_of {X : Cx} {W : WX} {l : Option Expr} (ha : EvP call XR n a) (G : Gd X call XR W n) (ht : (match l with | none => isLitNone a | some z => tr X.N a X.env.scope z) = true) : PO X l (rdO X.K XR W fun e => valOf (ev call a e)) := by
  cases l with
  | some z => exact po_any (ha.pe G ht)
  | none =>
    refine PO.imp po_none fun σ H Q ⟨T, B, fps, e, f, q⟩ => ?_
    have hl : a = .lit .none := by
      revert ht
      show isLitNone a = true → _
      unfold isLitNone
      split
      · intro _; rfl
      · intro z; cases z
    subst hl
    obtain ⟨l, hl, q⟩ := q
    cases hl
    exact q H T fps .refl f
theorem cut_ok {K : PySem.W.Frag} {H : Hp} {T : Addr → Prop} {kl : Prop} {vs : List V} {xs : List D} (l h : Option Int) (q : RqAll K H T kl vs xs) : RqAll K H T kl (cutV vs l h) (cut xs l h) := by
  unfold cutV cut
  have e : ∀ n d o, HT.sIx n d o = sIx n d o := fun n d o => by cases o <;> rfl
  rw [e, e, q.length]
  exact (q.drop _).take _
/-- of which kind a value is -/
def Kd (K : PySem.W.Frag) (H : Hp) (d : D) (p : Addr) (vs : List V) : Prop := ((∃ ys, d = .list ys) ∧ SqL K H p vs) ∨ ((∃ ys, d = .tuple ys) ∧ SqF K H p vs)
theorem Kd.sq {K : PySem.W.Frag} {H : Hp} {d : D} {p : Addr} {vs : List V} (h : Kd K H d p vs) : SqL K H p vs ∨ SqT K H p vs := h.imp And.right fun z => z.2.sq
theorem Kd.lst {K : PySem.W.Frag} {H : Hp} {d : D} {ys : List D} {p : Addr} {vs : List V} (h : Kd K H d p vs) (e : d = .list ys) : SqL K H p vs := by
  rcases h with ⟨_, h⟩ | ⟨⟨_, h⟩, _⟩
  · exact h
  · rw [e] at h; cases h
theorem Kd.tup {K : PySem.W.Frag} {H : Hp} {d : D} {ys : List D} {p : Addr} {vs : List V} (h : Kd K H d p vs) (e : d = .tuple ys) : SqF K H p vs := by
  rcases h with ⟨⟨_, h⟩, _⟩ | ⟨_, h⟩
  · rw [e] at h; cases h
  · exact h
theorem Rq.seqK {K : PySem.W.Frag} {H : Hp} {T : Addr → Prop} {kl : Prop} {v : V} {d : D} {xs : List D} (h : Rq K H T kl v d) (e : items d = some xs) : ∃ p vs, v = .ref p ∧ Kd K H d p vs ∧ RqAll K H T kl vs xs := by
  cases h with
  | lst hs ha => cases e; exact ⟨_, _, rfl, .inl ⟨⟨_, rfl⟩, hs.imp And.right And.right⟩, ha⟩
  | tup hs ha => cases e; exact ⟨_, _, rfl, .inr ⟨⟨_, rfl⟩, hs⟩, ha⟩
  | _ => cases e
/-- items of an answer that may be kept -/
theorem RR.kept {K : PySem.W.Frag} {H : Hp} {T B : Addr → Prop} {v : V} {r : R} {fp : List Addr} {xs : List D} (h : RR K H T B v r fp) (e : items r.d = some xs) :
    ∃ p vs, v = .ref p ∧ Kd K H r.d p vs ∧ (∀ f : ∀ {α : Type}, List α → List α, (∀ (T' : Addr → Prop) (kl : Prop), RqAll K H T' kl vs xs → RqAll K H T' kl (f vs) (f xs)) → (f xs).all r.itemOk = true → RpAll K H T (f vs) (f xs)) := by
  cases r with
  | st d =>
    obtain ⟨p, vs, rfl, h1, h2⟩ := Rq.seqK h.2 e
    exact ⟨p, vs, rfl, h1, fun f hf _ => hf _ _ h2⟩
  | bor d =>
    obtain ⟨p, vs, rfl, h1, h2⟩ := Rq.seqK h.2 e
    exact ⟨p, vs, rfl, h1, fun f hf ha => RqAll.immutAll ha (hf _ _ h2)⟩
  | fr ys =>
    cases e
    obtain ⟨a, vs, rfl, _, h1, h2⟩ := h
    exact ⟨a, vs, rfl, .inl ⟨⟨_, rfl⟩, .inl (.inl h1)⟩, fun f hf _ => hf _ _ h2⟩
  | own ys =>
    cases e
    obtain ⟨_, a, vs, rfl, h1, h2⟩ := h
    exact ⟨a, vs, rfl, .inl ⟨⟨_, rfl⟩, .inl (.inl h1)⟩, fun f hf _ => hf _ _ h2⟩
  | own2 xss =>
    cases e
    obtain ⟨_, a, as, rfl, h1, h2⟩ := h
    refine ⟨a, _, rfl, .inl ⟨⟨_, rfl⟩, .inl (.inl h1)⟩, fun f hf ha => ?_⟩
    have e0 : f (xss.map PyData.list) = [] := by
      cases q : f (xss.map PyData.list) with
      | nil => rfl
      | cons y ys =>
        rw [q, List.all_cons] at ha
        cases ha
    have h3 : RqAll K H (fun _ => True) True (as.map V.ref) (xss.map PyData.list) := by
      have go : ∀ {as : List Addr} {xss : List (List D)}, OwnAll K H T as xss → RqAll K H (fun _ => True) True (as.map V.ref) (xss.map PyData.list) := by
        intro as xss h
        induction h with
        | nil => exact .nil
        | cons h1 h2 _ ih =>
          refine .cons (.lst (.inl ⟨trivial, .inl h1⟩) ?_) ih
          exact (RqAll.keep (.refl fun _ _ => trivial) h2).weak
      exact go h2
    have h4 := hf _ _ h3
    rw [e0] at h4 ⊢
    cases hv : f (as.map V.ref) with
    | nil => exact .nil
    | cons _ _ => rw [hv] at h4; cases h4
end
end MP
end

section
set_option autoImplicit false
set_option linter.all false
set_option maxRecDepth 100000
/-! Soundness of expressions, 6: slices, reversals, built-ins. -/
namespace MP
open PySem PySem.Spec PyProof.Rows L2

/-! ### t[::-1] -/
section
variable {prog : Program} {w : World} {A : Around} {E : Value → Shared → Prop} {s : Shared}
theorem sliceApplied_rev {sl : Addr} {vl vu vs : Value} {n : Nat} {Q : Int × Int × Nat → Shared → Prop} (hs : s.heap.IsSliceOf sl vl vu vs) (pl : IsPart vl none) (pu : IsPart vu none) (ps : IsPart vs (some (-1)))
    (h : Q ((n : Int) - 1, -1, n) s) : wpAny (model prog w) A (Builtin.Slice.sliceApplied (.ref sl) (pure (n : Int))) Q E s := by
  obtain ⟨os, hos, hcs, hds⟩ := id hs
  unfold Builtin.Slice.sliceApplied Builtin.Slice.sliceFields
  refine wpAny_bind (wpAny_bind (wpAny_field hos hds (x := vl) rfl (wpAny_bind (wpAny_field hos hds (x := vu) rfl (wpAny_bind (wpAny_field hos hds (x := vs) rfl (wpAny_pure ?_)))))))
  refine wpAny_bind (HT.slicePart_ ps ?_)
  show wpAny _ _ (if ((-1 : Int) == 0) = true then _ else _) _ _ s
  rw [if_neg (by decide)]
  refine wpAny_bind (HT.slicePart_ pl (wpAny_bind (HT.slicePart_ pu (wpAny_bind (wpAny_pure ?_)))))
  show wpAny _ _ (match Builtin.Slice.sliceAdjust none none (-1) (n : Int) with | (lo, hi) => pure (lo, (-1 : Int), Builtin.Slice.slicePlaces lo hi (-1))) _ _ s
  rw [show Builtin.Slice.sliceAdjust none none (-1) (n : Int) = ((n : Int) - 1, -1) by unfold Builtin.Slice.sliceAdjust; simp]
  show wpAny _ _ (pure ((n : Int) - 1, (-1 : Int), Builtin.Slice.slicePlaces ((n : Int) - 1) (-1) (-1))) _ _ s
  rw [show Builtin.Slice.slicePlaces ((n : Int) - 1) (-1) (-1) = n by
    unfold Builtin.Slice.slicePlaces
    rw [if_neg (by decide)]
    split
    · rw [show (- -1 : Int) = 1 by decide, Int.ediv_one]; omega
    · omega]
  exact wpAny_pure h
theorem pick_rev (xs : Array Value) : ((List.range xs.size).filterMap fun (m : Nat) => xs[(((xs.size : Nat) : Int) - 1 + (m : Int) * (-1)).toNat]?).toArray = xs.toList.reverse.toArray := by
  have e : (List.range xs.size).filterMap (fun (m : Nat) => xs[(((xs.size : Nat) : Int) - 1 + (m : Int) * (-1)).toNat]?) = ((List.range xs.size).map fun k => xs.size - 1 - k).filterMap (xs[·]?) := by
    have go : ∀ (l : List Nat) (f g : Nat → Option Value), (∀ m ∈ l, f m = g m) → l.filterMap f = l.filterMap g := by
      intro l f g h
      induction l with
      | nil => rfl
      | cons y ys ih => rw [List.filterMap_cons, List.filterMap_cons, h y List.mem_cons_self, ih fun m hm => h m (List.mem_cons_of_mem _ hm)]
    rw [List.filterMap_map]
    refine go _ _ _ fun m hm => ?_
    have := List.mem_range.mp hm
    show xs[_]? = xs[_]?
    congr 1
    show _ = xs.size - 1 - m
    omega
  rw [e, PySem.W.krv_range, List.filterMap_reverse, PySem.W.krv_all]
theorem getItem_tuple_rev {t sl : Addr} {items : Array Value} {vl vu vs : Value} {Q : Value → Shared → Prop} (ht : IsTup s.heap t items) (hs : s.heap.IsSliceOf sl vl vu vs) (pl : IsPart vl none) (pu : IsPart vu none) (ps : IsPart vs (some (-1)))
    (h : Q (.ref s.heap.objs.size) { s with heap := s.heap.push { cls := .type "tuple", data := .seq items.toList.reverse.toArray } })
    (hsz : items.size ≤ sizeLine) : wpAny (model prog w) A (getItem (.ref t) (.ref sl)) Q E s := by
  have htake : sizeOk (.seq items.toList.reverse.toArray) := by
    show items.toList.reverse.toArray.size ≤ sizeLine
    rw [List.size_toArray, List.length_reverse, Array.length_toList]
    omega
  obtain ⟨os, hos, hcs, hds⟩ := id hs
  have hTs : s.TypeIs (.ref sl) "slice" := ⟨os, hos, hcs⟩
  unfold getItem
  try with_reducible refine wpAny_holding ?_
  first | refine wpAny_bind (wpAny_pure ?_) | skip
  refine wpAny_bind (wpAny_sequenceKey ht.typeIs (by decide) ?_)
  refine wpAny_bind (wpAny_callSpecial?_slot (name := Str.ofString "__getitem__") ht.typeIs PyProof.Rows.slot_tuple_getitem
    (wpAny_call_entry PyProof.Rows.slot_tuple_getitem ht.typeIs entry_tuple_getitem ?_ (args_tuple_getitem _ _)))
  show wpAny _ _ (Builtin.Tuple.tupleItemsOf (.ref t) >>= _) _ _ s
  refine wpAny_bind (tupleItemsOf_ ht ?_)
  refine wpAny_bind (wpAny_typeOf hTs ?_)
  rw [if_pos (by decide)]
  refine wpAny_bind (sliceApplied_rev hs pl pu ps ?_)
  have hno : ¬ ((((items.size : Nat) : Int) - 1 == 0 && (-1 : Int) == 1 && items.size == items.size) = true) := by
    intro q
    rw [Bool.and_eq_true, Bool.and_eq_true] at q
    exact absurd q.1.2 (by decide)
  show wpAny _ _ (if (((items.size : Nat) : Int) - 1 == 0 && (-1 : Int) == 1 && items.size == items.size) = true then _ else _) _ _ s
  rw [if_neg hno, pick_rev]
  first
    | exact wpAny_bind (m := Builtin.Tuple.tupleExact _) (wpAny_newObj_type (wpAny_pure ⟨_, rfl, wpAny_pure h⟩) htake)
    | exact wpAny_bind (m := Builtin.Tuple.tupleExact _) (wpAny_newObj_type (wpAny_bind (wpAny_pure (wpAny_pure ⟨_, rfl, wpAny_pure h⟩))) htake)
    | exact wpAny_bind (wpAny_bind (m := Builtin.Tuple.tupleExact _) (wpAny_newObj_type (wpAny_pure (wpAny_pure ⟨_, rfl, wpAny_pure h⟩)) htake))
    | exact wpAny_bind (wpAny_bind (m := Builtin.Tuple.tupleExact _) (wpAny_newObj_type (wpAny_pure ⟨_, rfl, wpAny_pure h⟩) htake))
end
def tRev (K : PySem.W.Frag) (te : TE) : TE := fun σ H Q => te σ H fun x H1 => ∃ a xs, x = .ref a ∧ ((SqL K H1 a xs ∧ NewL xs.reverse H1 Q) ∨ (SqT K H1 a xs ∧ NewT xs.reverse H1 Q))
theorem pe_rev {X : Cx} {e : Expr} {te : TE} {k : Nat} {p1 p2 p3 pos : Pos} (he : PE X e te) : PE X (.Subscript e (.Slice none none (some (.UnaryOp .USub (.Constant (.int 1) k p1) p2)) p3) pos) (tRev X.K te) := by
  refine ⟨fun pins s σ H Q I h => ?_⟩
  refine Subscript_ (thn (he.run pins s σ H _ I h) fun v s1 ⟨x, H1, I1, r1, q1⟩ => ?_)
  obtain ⟨a, xs, ex, q⟩ := q1
  subst ex
  cases r1
  have hst : PO X (some (.UnaryOp .USub (.Constant (.int 1) k p1) p2)) (tPart (tUn (rU fun i => .int (-i)) (tC (.int 1)))) := po_some (pe_un un_neg pe_int)
  refine wpAny_Slice (thn (po_none.run pins s1 σ H1 (fun o H2 => o = none ∧ H2 = H1) I1 ⟨rfl, rfl⟩) fun vl s2 ⟨l, H2, I2, pl, el, e2⟩ => ?_)
  subst el e2
  refine thn (po_none.run pins s2 σ H2 (fun o H3 => o = none ∧ H3 = H2) I2 ⟨rfl, rfl⟩) fun vu s3 ⟨u, H3, I3, pu, eu, e3⟩ => ?_
  subst eu e3
  refine thn (hst.run pins s3 σ H3 (fun o H4 => o = some (-1) ∧ H4 = H3) I3 ⟨1, rfl, -1, rfl, rfl, rfl⟩) fun vs s4 ⟨o, H4, I4, ps, eo, e4⟩ => ?_
  subst eo e4
  have I5 : Inv X pins σ H4 { s4 with heap := s4.heap.push { cls := .type "slice", data := .fields #[vl, vu, vs] } } := I4.kept (t' := s4.toks) fun b ob q => Heap.get?_push_of_some _ q
  show wpAny (model X.prog X.w) X.A (subscriptTail e (.Slice none none (some (.UnaryOp .USub (.Constant (.int 1) k p1) p2)) p3) (.ref a) (.ref s4.heap.objs.size)) (EP X pins σ Q) X.xe { s4 with heap := s4.heap.push { cls := .type "slice", data := .fields #[vl, vu, vs] } }
  rcases q with ⟨hx, q⟩ | ⟨hx, q⟩
  · obtain ⟨its, r, ht, hz⟩ := I5.list hx
    have hlen := r.length
    refine tail_any (ops := [.ref a, .ref s4.heap.objs.size]) ht.isList.typeIs (PySem.slot_list_getitem.lookup) ?_ (by with_unfolding_all rfl)
    refine wpAny_getItem_list_slice ht.isList (Heap.IsSliceOf.new _ vl vu vs) pl pu ps (by decide) ?_ (by rw [List.size_toArray]; omega)
    rw [PySem.W.krv_pick]
    refine ⟨.ref _, _, I5.laid (t' := s4.toks) (o := .lst xs.reverse) (fun b ob q => Heap.get?_push_of_some _ q) (Nat.le_refl _) ?_, rfl, q _ (I5.hok.fresh (Nat.le_refl _))⟩
    exact ⟨by rw [List.length_reverse]; exact hz, _, 0, r.reverse, Heap.get?_push_size _ rfl⟩
  · obtain ⟨its, r, ht, hz⟩ := I5.tuple hx
    have hlen := r.length
    refine tail_any (ops := [.ref a, .ref s4.heap.objs.size]) ht.typeIs (PyProof.Rows.slot_tuple_getitem.lookup) ?_ (by with_unfolding_all rfl)
    refine getItem_tuple_rev ht (Heap.IsSliceOf.new _ vl vu vs) pl pu ps ?_ (by rw [List.size_toArray]; omega)
    exact ⟨.ref _, _, Inv.laidT (t := s4.toks) I5 r.reverse (by rw [List.length_reverse]; exact hz), rfl, q _ _ _ (I5.hok.fresh (Nat.le_refl _))⟩

section
variable {call : CallF} {XR : XRel} {n : Nat} {a b c : Ex} {es : Exs}
theorem ev_slc (ha : EvP call XR n a) (hb : EvP call XR n b) (hc : EvP call XR n c) : EvP call XR n (.slc a b c) := EvP.plain (fun _ z => nomatch z) fun X W G x ht => by
  unfold tr at ht
  split at ht
  · rename_i y l h p2 pos
    simp only [Bool.and_eq_true] at ht
    obtain ⟨⟨h1, h2⟩, h3⟩ := ht
    refine ⟨PE.imp (pe_slice (sl_list.or sl_tupF) (ha.pl G h1) (po_of hb G h2) (po_of hc G h3)) fun σ H Q ⟨T, B, fps, e, f, q⟩ => ?_, rfl⟩
    refine ⟨T, B, fps, e, f, (OutOk.bind q).mono (fun ra e1 q v H1 T1 fps1 fp1 p1 hv => ?_) fun _ _ q => q⟩
    refine ⟨T1, B, fps1, e1, p1.fm, (OutOk.bind q).mono (fun dl e2 q => ?_) fun _ _ q => q.trans p1.ext⟩
    obtain ⟨lo, hlo, q⟩ := (OutOk.bind q).of_lift
    refine ⟨lo, hlo, fun H2 T2 fps2 x2 f2 => ?_⟩
    refine ⟨T2, B, fps2, e2, f2, (OutOk.bind q).mono (fun dh e3 q => ?_) fun _ _ q => q.trans (p1.ext.trans x2)⟩
    obtain ⟨hi, hhi, q⟩ := (OutOk.bind q).of_lift
    refine ⟨hi, hhi, fun H3 T3 fps3 x3 f3 => ?_⟩
    obtain ⟨r, hr, q⟩ := (OutOk.bind q).of_lift
    obtain ⟨r', hr', q⟩ := q.of_lift
    obtain ⟨fp', p3⟩ := later_ok p1 hv (x2.trans x3) f3 hr
    have key : ∀ {xs : List D}, items r.d = some xs → (cut xs lo hi).all r.itemOk = true → ∃ p vs, v = .ref p ∧ Kd X.K H3 r.d p vs ∧ RpAll X.K H3 T3 (cutV vs lo hi) (cut xs lo hi) := fun {xs} hx ha => by
      obtain ⟨p, vs, e0, h1, h2⟩ := p3.rr.kept hx
      have e : ∀ (vs : List V), cutV vs lo hi = cut vs lo hi := fun vs => by
        unfold cutV cut
        have e : ∀ n d o, HT.sIx n d o = sIx n d o := fun n d o => by cases o <;> rfl
        rw [e, e]
      refine ⟨p, vs, e0, h1, ?_⟩
      rw [e]
      exact h2 (fun l => cut l lo hi) (fun T' kl h => by have := cut_ok lo hi h; rw [e] at this; exact this) ha
    unfold sliceOf at hr'
    split at hr'
    · rename_i xs hd
      obtain ⟨hk, er⟩ := some_if hr'
      subst er
      obtain ⟨p, vs, rfl, h1, h2⟩ := key (by rw [hd]; rfl) hk
      exact .inl ⟨p, vs, rfl, h1.lst hd, done_lst q p3.ext f3 h2⟩
    · rename_i xs hd
      obtain ⟨hk, er⟩ := some_if hr'
      subst er
      obtain ⟨p, vs, rfl, h1, h2⟩ := key (by rw [hd]; rfl) hk
      have h1 := h1.tup hd
      refine .inr ⟨p, vs, rfl, h1.sq, fun e => ?_, done_tup q p3.ext f3 h2⟩
      rw [e] at h2
      exact done_st q p3.ext f3 (.tup h1 h2)
    · cases hr'
  · cases ht
theorem ev_rev (ha : EvP call XR n a) : EvP call XR n (.rev a) := EvP.plain (fun _ z => nomatch z) fun X W G x ht => by
  unfold tr at ht
  split at ht
  · refine ⟨PE.imp (pe_rev (ha.pe G ht)) fun σ H Q ⟨T, B, fps, e, f, q⟩ => ?_, rfl⟩
    refine ⟨T, B, fps, e, f, (OutOk.bind q).mono (fun r e1 q v H1 T1 fps1 fp1 p1 => ?_) fun _ _ q => q⟩
    obtain ⟨r', hr', q⟩ := q.of_lift
    unfold revOf at hr'
    split at hr'
    · rename_i xs hd
      obtain ⟨hk, er⟩ := some_if hr'
      subst er
      obtain ⟨p, vs, rfl, h1, h2⟩ := p1.rr.kept (xs := xs) (by rw [hd]; rfl)
      exact ⟨p, vs, rfl, .inl ⟨h1.lst hd, done_lst q p1.ext p1.fm (h2 (fun l => l.reverse) (fun _ _ h => h.reverse) (by simpa using hk))⟩⟩
    · rename_i xs hd
      obtain ⟨hk, er⟩ := some_if hr'
      subst er
      obtain ⟨p, vs, rfl, h1, h2⟩ := p1.rr.kept (xs := xs) (by rw [hd]; rfl)
      exact ⟨p, vs, rfl, .inr ⟨(h1.tup hd).sq, done_tup q p1.ext p1.fm (h2 (fun l => l.reverse) (fun _ _ h => h.reverse) (by simpa using hk))⟩⟩
    · cases hr'
  · cases ht
/-! ### built-ins of one argument -/
theorem gl_blt {X : Cx} {W : WX} (G : Gd X call XR W n) {g : Str} {s : String} (h : gl X.env.scope g s = true) (hb : Str.ofString s ∈ bltNames) : g = Str.ofString s ∧ Gl X (Str.ofString s) ∧ X.mg (Str.ofString s) = none := by
  obtain ⟨rfl, h1, _⟩ := gl_of h
  exact ⟨rfl, h1, G.blt _ hb⟩
def tB1 (r : List V → Hp → VK → Prop) (te : TE) : TE := fun σ H Q => te σ H fun x H1 => r [x] H1 Q
/-- f(y), f a built-in function -/
theorem pe_b1 {X : Cx} {W : WX} (G : Gd X call XR W n) {g : Str} {s id : String} {y : Expr} {p pos : Pos} {te : TE} {r : List V → Hp → VK → Prop} (hg : gl X.env.scope g s = true) (hb : Str.ofString s ∈ bltNames) (hv : bootBuiltins (Str.ofString s) = some (.builtin id)) (hn : Str.ofString s ≠ "__name__")
    (hc : CallR X (.builtin id) r) (hy : PE X y te) (hp : plainX y = true) : PE X (.Call (.Name g p) [y] [] pos) (tB1 r te) := by
  obtain ⟨rfl, h1, h2⟩ := gl_blt G hg hb
  exact PE.imp (pe_callB hc h1 h2 hv (pa_cons hy pa_nil (plainX_star hp _ _)) hn (gl_of hg).2.2 (plainX_star hp _ _) rfl) fun σ H Q q => q
theorem pe_t1 {X : Cx} {W : WX} (G : Gd X call XR W n) {g : Str} {s id : String} {y : Expr} {p pos : Pos} {te : TE} {r : List V → Hp → VK → Prop} (hg : gl X.env.scope g s = true) (hb : Str.ofString s ∈ bltNames) (hv : bootBuiltins (Str.ofString s) = some (.type id)) (hn : Str.ofString s ≠ "__name__")
    (hc : CallR X (.type id) r) (hy : PE X y te) (hp : plainX y = true) : PE X (.Call (.Name g p) [y] [] pos) (tB1 r te) := by
  obtain ⟨rfl, h1, h2⟩ := gl_blt G hg hb
  exact PE.imp (pe_callTy hc h1 h2 hv (pa_cons hy pa_nil (plainX_star hp _ _)) hn (gl_of hg).2.2 (plainX_star hp _ _) rfl) fun σ H Q q => q
theorem sortable_of {ks : List D} (h : sortable ks = true) : W.AllAlike ks ∧ W.Sortable ks ∧ (∀ d ∈ ks, d.depth ≤ 32) ∧ ks.length ≤ line := by
  unfold sortable at h
  simp only [Bool.and_eq_true, decide_eq_true_eq] at h
  obtain ⟨⟨⟨h1, h2⟩, h3⟩, h4⟩ := h
  refine ⟨fun d hd d' hd' => List.all_eq_true.mp (List.all_eq_true.mp h1 d hd) d' hd', ?_, fun d hd => of_decide_eq_true (List.all_eq_true.mp h3 d hd), h4⟩
  rw [Bool.or_eq_true] at h2
  refine h2.imp (fun z d hd => ?_) fun z d hd => ?_
  · have := List.all_eq_true.mp z d hd
    split at this
    · exact ⟨_, _, rfl⟩
    · cases this
  · have := List.all_eq_true.mp z d hd
    split at this
    · cases this
    · cases this
    · rename_i h1 h2
      exact ⟨h1, h2⟩
theorem vals_each {K : PySem.W.Frag} {H : Hp} {T : Addr → Prop} {kl : Prop} : ∀ {vs : List V} {us : List Value} {ds : List D}, Vals vs us → RqAll K H T kl vs ds → W.EachIs (fun u d => ∃ v, RelV v u ∧ Rq K H T kl v d) us ds
  | [], _, _, .nil, h => by cases h; exact .nil
  | _ :: _, _, _, .cons r1 r2, h => by
    cases h with
    | cons h1 h2 => exact .cons ⟨_, r1, h1⟩ (vals_each r2 h2)
theorem each_vals {K : PySem.W.Frag} {H : Hp} {T : Addr → Prop} {kl : Prop} : ∀ {us : List Value} {ds : List D}, W.EachIs (fun u d => ∃ v, RelV v u ∧ Rq K H T kl v d) us ds → ∃ vs, Vals vs us ∧ RqAll K H T kl vs ds
  | _, _, .nil => ⟨[], .nil, .nil⟩
  | _, _, .cons ⟨v, h1, h2⟩ h => by
    obtain ⟨vs, h3, h4⟩ := each_vals h
    exact ⟨v :: vs, .cons h1 h3, .cons h2 h4⟩
theorem cr_sortedD {X : Cx} (hu : X.A.units + 66 < cLine) : CallR X (.builtin "sorted") (fun vs H Q => ∃ a xs ds T, vs = [.ref a] ∧ SqL X.K H a xs ∧ RpAll X.K H T xs ds ∧ sortable ds = true ∧ ∀ ys, RpAll X.K H T ys (sortBy id ds) → NewL ys H Q) := by
  intro pins s σ H vs us Q I r h
  obtain ⟨a, xs, ds, T, rfl, hs, hr, hk, q⟩ := h
  obtain ⟨its, rv, hl, _⟩ := I.list hs
  rw [Vals.ref1 r]
  obtain ⟨k1, k2, k3, k4⟩ := sortable_of hk
  have he := vals_each rv hr
  have hd : W.EachIs (fun u d => ∃ as, Reads s.heap u (id d) as) its ds := he.mono fun u d ⟨v, h1, h2⟩ => Dp.reads I d v u h2.dp h1
  refine W.sorted_data (enc := id) hl.isList he hd (by rw [List.map_id]; exact k1) (by rw [List.map_id]; exact k2) (by rw [← line_eq]; exact k4) (fun b hb => by have := k3 b hb; show _ + 2 + b.depth < _; omega) fun out h1 h2 => ?_
  obtain ⟨ys, hv, hy⟩ := each_vals h2
  obtain ⟨ep, he'⟩ := PyProof.Rows.sortedAll_at s.heap its out.toArray
  have hlen : ys.length ≤ sizeLine := by rw [hv.length, h1, ← line_eq]; exact k4
  exact ⟨.ref _, upd H (s.heap.objs.size + 1) (.lst ys), I.laid (t' := s.toks) (fun _ _ => PyProof.Rows.sortedAll_old) (Nat.le_succ _) ⟨hlen, out, ep, hv, he'⟩, rfl, q ys hy _ (I.hok.fresh (Nat.le_succ _))⟩
end
end MP
end

section
set_option autoImplicit false
set_option linter.all false
set_option maxRecDepth 100000
/-! Soundness of expressions, 7: built-ins of one and two arguments, count. -/
namespace MP
open PySem PySem.Spec PyProof.Rows L2

section
variable {call : CallF} {XR : XRel} {n : Nat} {a b c : Ex} {es : Exs}
theorem tr_b1 {N : List Str} {f : B1} {sc : Scope} {x : Expr} (h : tr N (.b1 f a) sc x = true) :
    (∃ g p y pos s, x = .Call (.Name g p) [y] [] pos ∧ b1Name f = some s ∧ gl sc g s = true ∧ tr N a sc y = true) ∨
    (∃ g p y t p2 pos s, x = .Call (.Name g p) [y, .Name t p2] [] pos ∧ gl sc g "isinstance" = true ∧ b1Isa f = some s ∧ gl sc t s = true ∧ tr N a sc y = true) ∨
    (∃ y ap cp, x = .Call (.Attribute y (Str.ofString "bit_length") ap) [] [] cp ∧ f = .bitlen ∧ sameLine ap cp = true ∧ tr N a sc y = true) := by
  unfold tr at h
  split at h
  · split at h
    · rw [Bool.and_eq_true] at h
      obtain ⟨h1, h2⟩ := h
      split at h1
      · exact .inl ⟨_, _, _, _, _, rfl, ‹_›, h1, h2⟩
      · cases h1
    · simp only [Bool.and_eq_true] at h
      obtain ⟨⟨h0, h1⟩, h2⟩ := h
      split at h1
      · exact .inr (.inl ⟨_, _, _, _, _, _, _, rfl, h0, ‹_›, h1, h2⟩)
      · cases h1
    · cases h
  · simp only [Bool.and_eq_true, decide_eq_true_eq] at h
    obtain ⟨⟨⟨h1, rfl⟩, h2⟩, h3⟩ := h
    exact .inr (.inr ⟨_, _, _, rfl, h1, h2, h3⟩)
  · cases h
theorem b1Of_inv {f : B1} {r r' : R} (h : b1Of f r = some r') : b1 f r.d = some r' ∧ (f.keeps = true → ∀ xs, items r.d = some xs → xs.all r.itemOk = true) := by
  unfold b1Of at h
  obtain ⟨h1, h2⟩ : (!f.keeps || ((items r.d).getD []).all r.itemOk) = true ∧ b1 f r.d = some r' := by
    split at h
    · exact ⟨‹_›, h⟩
    · cases h
  refine ⟨h2, fun hk xs hx => ?_⟩
  rw [hk, hx] at h1
  simpa using h1
theorem DpAll.length {K : PySem.W.Frag} {H : Hp} : ∀ {ds : List D} {vs : List V}, DpAll K H vs ds → vs.length = ds.length
  | _, _, .nil => rfl
  | _, _, .cons _ h => by rw [List.length_cons, List.length_cons, DpAll.length h]
theorem DpAll.ints {K : PySem.W.Frag} {H : Hp} : ∀ {ds : List D} {vs : List V} {ns : List Int}, DpAll K H vs ds → ints? ds = some ns → vs = ns.map V.int
  | [], _, _, h, e => by cases h; cases e; rfl
  | d :: ds, _, _, h, e => by
    cases h with
    | cons h1 h2 =>
      cases d with
      | int i =>
        obtain ⟨ms, hm, rfl⟩ := Option.map_eq_some_iff.mp (show (ints? ds).map (i :: ·) = some _ from e)
        cases h1
        rw [DpAll.ints h2 hm]; rfl
      | _ => cases e
theorem Dp.list {K : PySem.W.Frag} {H : Hp} {v : V} {xs : List D} (h : Dp K H v (.list xs)) : ∃ p vs, v = .ref p ∧ SqL K H p vs ∧ DpAll K H vs xs := by
  cases h with
  | lst hs ha => exact ⟨_, _, rfl, hs, ha⟩
theorem Dp.tuple {K : PySem.W.Frag} {H : Hp} {v : V} {xs : List D} (h : Dp K H v (.tuple xs)) : ∃ p vs, v = .ref p ∧ SqT K H p vs ∧ DpAll K H vs xs := by
  cases h with
  | tup hs ha => exact ⟨_, _, rfl, hs, ha⟩
theorem mem_blt {s : String} (h : (bltNames.contains (Str.ofString s)) = true) : Str.ofString s ∈ bltNames := by
  simpa using h
/-- one answer, then a value -/
theorem rd_b1' {X : Cx} {W : WX} {f : B1} {R1 : V → Hp → VK → Prop}
    (hk : ∀ (σ : L2.St) (H : Hp) (Q : VK) (T B : Addr → Prop) (fps : Nat → List Addr) (ra r' : R) (e1 : Env) (v : V) (H1 : Hp) (T1 : Addr → Prop) (fps1 : Nat → List Addr) (fp : List Addr), Ps X.K B H T fps σ ra e1 v H1 T1 fps1 fp → b1 f ra.d = some r' → (f.keeps = true → ∀ xs, items ra.d = some xs → xs.all ra.itemOk = true) →
      (∀ w H2 T2 fps2 fp, Ps X.K B H T fps σ r' e1 w H2 T2 fps2 fp → Q w H2) → R1 v H1 Q) {σ : L2.St} {H : Hp} {Q : VK} (h : rdE X.K XR W (ev call (.b1 f a)) σ H Q) : rdE X.K XR W (ev call a) σ H fun x H1 => R1 x H1 Q := by
  obtain ⟨T, B, fps, e, f, q⟩ := h
  refine ⟨T, B, fps, e, f, (OutOk.bind q).mono (fun ra e1 q v H1 T1 fps1 fp1 p1 => ?_) fun _ _ q => q⟩
  obtain ⟨r', hr', q⟩ := q.of_lift
  obtain ⟨h1, h2⟩ := b1Of_inv hr'
  exact hk σ H Q T B fps ra r' e1 v H1 T1 fps1 fp1 p1 h1 h2 q
theorem rd_b1 {X : Cx} {W : WX} {f : B1} {r : List V → Hp → VK → Prop}
    (hk : ∀ (σ : L2.St) (H : Hp) (Q : VK) (T B : Addr → Prop) (fps : Nat → List Addr) (ra r' : R) (e1 : Env) (v : V) (H1 : Hp) (T1 : Addr → Prop) (fps1 : Nat → List Addr) (fp : List Addr), Ps X.K B H T fps σ ra e1 v H1 T1 fps1 fp → b1 f ra.d = some r' → (f.keeps = true → ∀ xs, items ra.d = some xs → xs.all ra.itemOk = true) →
      (∀ w H2 T2 fps2 fp, Ps X.K B H T fps σ r' e1 w H2 T2 fps2 fp → Q w H2) → r [v] H1 Q) {σ : L2.St} {H : Hp} {Q : VK} (h : rdE X.K XR W (ev call (.b1 f a)) σ H Q) : tB1 r (rdE X.K XR W (ev call a)) σ H Q :=
  rd_b1' (R1 := fun v H Q => r [v] H Q) hk h
theorem ev_b1 (f : B1) (ha : EvP call XR n a) : EvP call XR n (.b1 f a) := EvP.plain (fun _ z => nomatch z) fun X W G x ht => by
  have hc := G.calm
  rcases tr_b1 ht with ⟨g, p, y, pos, s, rfl, hs, hg, hy⟩ | ⟨g, p, y, t, p2, pos, s, rfl, hg, hs, ht', hy⟩ | ⟨y, ap, cp, rfl, rfl, hl, hy⟩
  · refine ⟨?_, rfl⟩
    have py := tr_plainX hy
    cases f <;> first | (cases hs; done) | skip
    · cases hs
      refine PE.imp (pe_b1 G hg (mem_blt (by decide)) boot_len (by decide) call_len_seq (ha.pe G hy) py) fun σ H Q q => rd_b1 (fun σ H Q T B fps ra r' e1 v H1 T1 fps1 fp p1 h1 h2 q => ?_) q
      have dp := p1.rr.dp
      cases hd : ra.d with
      | list xs =>
        rw [hd] at h1 dp; cases h1
        obtain ⟨p, vs, rfl, h3, h4⟩ := Dp.list dp
        exact ⟨p, vs, rfl, .inl h3, by rw [MP.DpAll.length h4]; exact done_st q p1.ext p1.fm (.int _)⟩
      | tuple xs =>
        rw [hd] at h1 dp; cases h1
        obtain ⟨p, vs, rfl, h3, h4⟩ := Dp.tuple dp
        exact ⟨p, vs, rfl, .inr h3, by rw [MP.DpAll.length h4]; exact done_st q p1.ext p1.fm (.int _)⟩
      | _ => rw [hd] at h1; cases h1
    · cases hs
      refine PE.imp (pe_t1 G hg (mem_blt (by decide)) PyProof.Rows.boot_tuple (by decide) call_tupleF (ha.pe G hy) py) fun σ H Q q => rd_b1 (fun σ H Q T B fps ra r' e1 v H1 T1 fps1 fp p1 h1 h2 q => ?_) q
      cases hd : ra.d with
      | list xs =>
        have hi : items ra.d = some xs := by rw [hd]; rfl
        rw [hd] at h1; cases h1
        obtain ⟨p, vs, rfl, h3, h4⟩ := p1.rr.kept hi
        exact ⟨p, vs, rfl, .inl ⟨h3.lst hd, done_tup q p1.ext p1.fm (h4 (fun l => l) (fun _ _ h => h) (h2 rfl xs hi))⟩⟩
      | tuple xs =>
        have hi : items ra.d = some xs := by rw [hd]; rfl
        rw [hd] at h1; cases h1
        obtain ⟨p, vs, rfl, h3, h4⟩ := p1.rr.kept hi
        exact ⟨p, vs, rfl, .inr ⟨(h3.tup hd).sq, done_st q p1.ext p1.fm (.tup (h3.tup hd) (h4 (fun l => l) (fun _ _ h => h) (h2 rfl xs hi)))⟩⟩
      | _ => rw [hd] at h1; cases h1
    · cases hs
      refine PE.imp (pe_t1 G hg (mem_blt (by decide)) PyProof.Rows.boot_list (by decide) call_list_of (ha.pe G hy) py) fun σ H Q q => rd_b1 (fun σ H Q T B fps ra r' e1 v H1 T1 fps1 fp p1 h1 h2 q => ?_) q
      cases hd : ra.d with
      | list xs =>
        have hi : items ra.d = some xs := by rw [hd]; rfl
        rw [hd] at h1; cases h1
        obtain ⟨p, vs, rfl, h3, h4⟩ := p1.rr.kept hi
        exact ⟨p, vs, rfl, .inl (h3.lst hd), done_lst q p1.ext p1.fm (h4 (fun l => l) (fun _ _ h => h) (h2 rfl xs hi))⟩
      | tuple xs =>
        have hi : items ra.d = some xs := by rw [hd]; rfl
        rw [hd] at h1; cases h1
        obtain ⟨p, vs, rfl, h3, h4⟩ := p1.rr.kept hi
        exact ⟨p, vs, rfl, .inr (h3.tup hd).sq, done_lst q p1.ext p1.fm (h4 (fun l => l) (fun _ _ h => h) (h2 rfl xs hi))⟩
      | _ => rw [hd] at h1; cases h1
    · cases hs
      refine PE.imp (pe_b1 G hg (mem_blt (by decide)) boot_sorted (by decide) (cr_sortedD G.hu) (ha.pe G hy) py) fun σ H Q q => rd_b1 (fun σ H Q T B fps ra r' e1 v H1 T1 fps1 fp p1 h1 h2 q => ?_) q
      cases hd : ra.d with
      | list xs =>
        have hi : items ra.d = some xs := by rw [hd]; rfl
        rw [hd] at h1
        obtain ⟨hk, er⟩ := some_if h1
        subst er
        obtain ⟨p, vs, rfl, h3, h4⟩ := p1.rr.kept hi
        exact ⟨p, vs, xs, T1, rfl, h3.lst hd, h4 (fun l => l) (fun _ _ h => h) (h2 rfl xs hi), hk, fun ys hy => done_lst q p1.ext p1.fm hy⟩
      | _ => rw [hd] at h1; cases h1
    · cases hs
      refine PE.imp (pe_b1 G hg (mem_blt (by decide)) boot_sum (by decide) (cr_sum hc) (ha.pe G hy) py) fun σ H Q q => rd_b1 (fun σ H Q T B fps ra r' e1 v H1 T1 fps1 fp p1 h1 h2 q => ?_) q
      have dp := p1.rr.dp
      cases hd : ra.d with
      | list xs =>
        rw [hd] at h1 dp
        obtain ⟨ns, hn, er⟩ := Option.map_eq_some_iff.mp (show (ints? xs).map _ = some r' from h1)
        subst er
        obtain ⟨p, vs, rfl, h3, h4⟩ := Dp.list dp
        have := MP.DpAll.ints h4 hn
        subst this
        exact ⟨p, ns, rfl, h3, done_st q p1.ext p1.fm (.int _)⟩
      | _ => rw [hd] at h1; cases h1
    · cases hs
      refine PE.imp (pe_b1 G hg (mem_blt (by decide)) boot_any (by decide) (cr_any_data hc) (ha.pe G hy) py) fun σ H Q q => rd_b1 (fun σ H Q T B fps ra r' e1 v H1 T1 fps1 fp p1 h1 h2 q => ?_) q
      have dp := p1.rr.dp
      cases hd : ra.d with
      | list xs =>
        rw [hd] at h1 dp
        obtain ⟨hk, er⟩ := some_if h1
        subst er
        exact ⟨v, xs, rfl, dp, hk, done_st q p1.ext p1.fm (.bl _)⟩
      | _ => rw [hd] at h1; cases h1
    · cases hs
      refine PE.imp (pe_b1 G hg (mem_blt (by decide)) boot_all (by decide) (cr_all_data hc) (ha.pe G hy) py) fun σ H Q q => rd_b1 (fun σ H Q T B fps ra r' e1 v H1 T1 fps1 fp p1 h1 h2 q => ?_) q
      have dp := p1.rr.dp
      cases hd : ra.d with
      | list xs =>
        rw [hd] at h1 dp
        obtain ⟨hk, er⟩ := some_if h1
        subst er
        exact ⟨v, xs, rfl, dp, hk, done_st q p1.ext p1.fm (.bl _)⟩
      | _ => rw [hd] at h1; cases h1
    · cases hs
      exact PE.imp (pe_b1 (r := rMax X.K) G hg (mem_blt (by decide)) boot_max (by decide) (cr_max hc) (ha.pe G hy) py) fun σ H Q q => rd_b1 (fun σ H Q T B fps ra r' e1 v H1 T1 fps1 fp p1 h1 h2 q => nomatch h1) q
    · cases hs
      exact PE.imp (pe_b1 (r := rMin X.K) G hg (mem_blt (by decide)) boot_min (by decide) (cr_min hc) (ha.pe G hy) py) fun σ H Q q => rd_b1 (fun σ H Q T B fps ra r' e1 v H1 T1 fps1 fp p1 h1 h2 q => nomatch h1) q
    · cases hs
      refine PE.imp (pe_t1 G hg (mem_blt (by decide)) PyProof.Rows.boot_int (by decide) call_int1 (ha.pe G hy) py) fun σ H Q q => rd_b1 (fun σ H Q T B fps ra r' e1 v H1 T1 fps1 fp p1 h1 h2 q => ?_) q
      have dp := p1.rr.dp
      cases hd : ra.d with
      | int i =>
        rw [hd] at h1 dp; cases h1; cases dp
        exact .inl ⟨i, rfl, done_st q p1.ext p1.fm (.int _)⟩
      | bool k =>
        rw [hd] at h1 dp; cases h1; cases dp
        exact .inr ⟨k, rfl, done_st q p1.ext p1.fm (.int _)⟩
      | _ => rw [hd] at h1; cases h1
    · cases hs
      refine PE.imp (pe_b1 G hg (mem_blt (by decide)) boot_abs (by decide) call_abs (ha.pe G hy) py) fun σ H Q q => rd_b1 (fun σ H Q T B fps ra r' e1 v H1 T1 fps1 fp p1 h1 h2 q => ?_) q
      have dp := p1.rr.dp
      cases hd : ra.d with
      | int i =>
        rw [hd] at h1 dp; cases h1; cases dp
        exact ⟨i, rfl, done_st q p1.ext p1.fm (.int _)⟩
      | _ => rw [hd] at h1; cases h1
  · refine ⟨?_, rfl⟩
    have py := tr_plainX hy
    obtain ⟨rfl, g1, g2⟩ := gl_blt G hg (mem_blt (by decide))
    have mk : ∀ (T : String) (fd : D → Bool), s = T → gl X.env.scope t s = true → Str.ofString T ∈ bltNames → bootBuiltins (Str.ofString T) = some (.type T) → Str.ofString T ≠ "__name__" →
        ((T = "int" ∧ fd = PyData.isInt) ∨ (T = "bool" ∧ fd = PyData.isBool) ∨ (T = "tuple" ∧ fd = PyData.isTuple) ∨ (T = "str" ∧ fd = PyData.isStr)) → (∀ d, b1 f d = some (.st (.bool (fd d)))) →
        PE X (.Call (.Name (Str.ofString "isinstance") p) [y, .Name t p2] [] pos) (rdE X.K XR W (ev call (.b1 f a))) := fun T fd e1 e2 e3 e4 e5 e6 e7 => by
      subst e1
      obtain ⟨rfl, k1, k2⟩ := gl_blt G e2 e3
      refine PE.imp (pe_callB cr_isa g1 g2 boot_isinstance (pa_cons (ha.pe G hy) (pa_cons (pe_bltn (v := .ty s) k1 k2 e4 rfl e5 (gl_of e2).2.2) pa_nil) (plainX_star py _ _)) (by decide) (gl_of hg).2.2 (plainX_star py _ _) rfl) fun σ H Q q => ?_
      refine rd_b1' (R1 := fun v H Q => ∃ x d t f, [v, V.ty s] = [x, .ty t] ∧ Dp X.K H x d ∧ ((t = "int" ∧ f = PyData.isInt) ∨ (t = "bool" ∧ f = PyData.isBool) ∨ (t = "tuple" ∧ f = PyData.isTuple) ∨ (t = "str" ∧ f = PyData.isStr)) ∧ Q (.bl (f d)) H) (fun σ H Q T B fps ra r' e1 v H1 T1 fps1 fp p1 h1 h2 q => ?_) q
      rw [e7] at h1
      cases h1
      exact ⟨v, ra.d, s, fd, rfl, p1.rr.dp, e6, done_st q p1.ext p1.fm (.bl _)⟩
    cases f <;> first | (cases hs; done) | skip
    · cases hs; exact mk _ PyData.isInt rfl ht' (mem_blt (by decide)) PyProof.Rows.boot_int (by decide) (.inl ⟨rfl, rfl⟩) fun _ => rfl
    · cases hs; exact mk _ PyData.isBool rfl ht' (mem_blt (by decide)) PyProof.Rows.boot_bool (by decide) (.inr (.inl ⟨rfl, rfl⟩)) fun _ => rfl
    · cases hs; exact mk _ PyData.isTuple rfl ht' (mem_blt (by decide)) PyProof.Rows.boot_tuple (by decide) (.inr (.inr (.inl ⟨rfl, rfl⟩))) fun _ => rfl
    · cases hs; exact mk _ PyData.isStr rfl ht' (mem_blt (by decide)) PyProof.Rows.boot_str (by decide) (.inr (.inr (.inr ⟨rfl, rfl⟩))) fun _ => rfl
  · refine ⟨PE.imp (pe_bits (ha.pe G hy) (plainX_base (tr_plainX hy) _ _ _) hl) fun σ H Q q => rd_b1' (R1 := fun x H1 Q => ∃ i, x = .int i ∧ Q (.int (Builtin.Int.intBits i : Nat)) H1) (fun σ H Q T B fps ra r' e1 v H1 T1 fps1 fp p1 h1 h2 q => ?_) q, rfl⟩
    have dp := p1.rr.dp
    cases hd : ra.d with
    | int i =>
      rw [hd] at h1 dp; cases h1; cases dp
      exact ⟨i, rfl, done_st q p1.ext p1.fm (.int _)⟩
    | _ => rw [hd] at h1; cases h1
theorem ev_b2 (f : B2) (ha : EvP call XR n a) (hb : EvP call XR n b) : EvP call XR n (.b2 f a b) := EvP.plain (fun _ z => nomatch z) fun X W G x ht => by
  unfold tr at ht
  split at ht
  · rename_i g p y z pos
    simp only [Bool.and_eq_true] at ht
    obtain ⟨⟨hg, h1⟩, h2⟩ := ht
    refine ⟨?_, rfl⟩
    have hp1 := tr_plainX h1
    have hp2 := tr_plainX h2
    have pa : PA X [y, z] _ := pa_cons (ha.pv G h1) (pa_cons (hb.pv G h2) pa_nil (plainX_star hp2 _ _)) (plainX_star hp1 _ _)
    have hst : (backTo pos (starEach [z] X.env)).any (·.1) = false := by rw [plainX_star hp2]; rfl
    cases f with
    | min =>
      obtain ⟨rfl, g1, g2⟩ := gl_blt G hg (mem_blt (by decide))
      refine PE.imp (pe_callB (call_min2 G.calm) g1 g2 boot_min pa (by decide) (gl_of hg).2.2 (plainX_star hp1 _ _) hst) fun σ H Q q => rd2V q fun B H T fps e0 x y v u e H' T' fps' f0 xx ff rx ry z => ?_
      obtain ⟨d, hd, z⟩ := (OutOk.bind z).of_lift
      show ∃ i j, _
      cases x <;> first | (cases hd; done) | (cases y <;> first | (cases hd; done) | (cases hd; obtain rfl := rx.intE; obtain rfl := ry.intE; exact ⟨_, _, rfl, done_st z xx ff (.int _)⟩))
    | max =>
      obtain ⟨rfl, g1, g2⟩ := gl_blt G hg (mem_blt (by decide))
      refine PE.imp (pe_callB (call_max2 G.calm) g1 g2 boot_max pa (by decide) (gl_of hg).2.2 (plainX_star hp1 _ _) hst) fun σ H Q q => rd2V q fun B H T fps e0 x y v u e H' T' fps' f0 xx ff rx ry z => ?_
      obtain ⟨d, hd, z⟩ := (OutOk.bind z).of_lift
      show ∃ i j, _
      cases x <;> first | (cases hd; done) | (cases y <;> first | (cases hd; done) | (cases hd; obtain rfl := rx.intE; obtain rfl := ry.intE; exact ⟨_, _, rfl, done_st z xx ff (.int _)⟩))
  · cases ht
end
end MP
end

section
set_option autoImplicit false
set_option linter.all false
set_option maxRecDepth 100000
/-! Soundness of expressions, 8: count, the methods of own lists. -/
namespace MP
open PySem PySem.Spec PyProof.Rows L2

section
variable {K : PySem.W.Frag} {B T : Addr → Prop} {H H' : Hp} {fps : Nat → List Addr} {σ : L2.St} {e : Env}
/-- a slot's own places are written; it may take new ones -/
theorem Fm.wr (f : Fm K H T B fps σ e) {i : Nat} (hi : i < e.length) {s' : Slot} {fp' : List Addr} (k : ∀ b o, H b = some o → b ∉ fps i → H' b = some o) (frz : ∀ b o u, H b = some (.frz o u) → H' b = some (.frz o u)) (dm : ∀ b, H b ≠ none → H' b ≠ none)
    (hs : SR K H' T B (σ[i]?) s' fp') (nd : fp'.Nodup) (nw : ∀ b ∈ fp', b ∈ fps i ∨ H b = none) : Fm K H' T B (fpSet fps i fp') σ (e.set i s') ∧ Ext B H T fps H' T (fpSet fps i fp') := by
  have kT : Kept H H' T T := ⟨fun _ h => h, fun b o ht h => k b o h fun z => f.dT i b z ht, frz⟩
  have kB : Kept H H' (TB T B) (TB T B) := ⟨fun _ h => h, fun b o ht h => k b o h fun z => ht.elim (f.dT i b z) (f.dB i b z), frz⟩
  refine ⟨⟨by rw [f.len, List.length_set], fun j => ?_, fun j => ?_, fun j l a h1 h2 => ?_, fun j a h ht => ?_, fun j a h ht => ?_, fun a h => dm a (f.td a h), fun a h => dm a (f.bd a h)⟩,
    ⟨fun _ h => h, fun b o h hn => k b o h (hn i), fun b o ht h => k b o h fun z => ht.elim (f.dT i b z) (f.dB i b z), frz, fun _ h => .inl h, fun b j hb => ?_, dm⟩⟩
  · rw [slot_set hi]
    by_cases hj : j = i
    · subst hj; rw [if_pos rfl, fpSet_same]; exact hs
    · rw [if_neg hj, fpSet_ne hj]
      exact (f.sl j).keep kT kB fun b hb o h => k b o h fun z => hj (f.dj j i b hb z)
  · by_cases hj : j = i
    · subst hj; rw [fpSet_same]; exact nd
    · rw [fpSet_ne hj]; exact f.nd j
  · have out : ∀ {j}, j ≠ i → a ∈ fp' → a ∉ fps j := fun hj h z => by
      rcases nw a h with q | q
      · exact hj (f.dj _ _ a z q)
      · exact f.notNone q z
    by_cases hj : j = i
    · subst hj
      rw [fpSet_same] at h1
      by_cases hl : l = j
      · exact hl.symm
      · rw [fpSet_ne hl] at h2; exact absurd h2 (out hl h1)
    · rw [fpSet_ne hj] at h1
      by_cases hl : l = i
      · subst hl; rw [fpSet_same] at h2; exact absurd h1 (out hj h2)
      · rw [fpSet_ne hl] at h2; exact f.dj j l a h1 h2
  · by_cases hj : j = i
    · subst hj; rw [fpSet_same] at h
      rcases nw a h with q | q
      · exact f.dT _ a q ht
      · exact f.td a ht q
    · rw [fpSet_ne hj] at h; exact f.dT j a h ht
  · by_cases hj : j = i
    · subst hj; rw [fpSet_same] at h
      rcases nw a h with q | q
      · exact f.dB _ a q ht
      · exact f.bd a ht q
    · rw [fpSet_ne hj] at h; exact f.dB j a h ht
  · by_cases hj : j = i
    · subst hj; rw [fpSet_same] at hb
      exact nw b hb
    · rw [fpSet_ne hj] at hb; exact .inl hb
theorem Fm.ol (f : Fm K H T B fps σ e) {i : Nat} {xs : List D} (h : slot e i = .ol xs) : ∃ a vs, σ[i]? = some (some (.ref a)) ∧ fps i = [a] ∧ H a = some (.lst vs) ∧ RpAll K H T vs xs ∧ i < e.length := by
  have hs := f.sl i
  rw [h] at hs
  obtain ⟨a, vs, h1, h2, h3, h4⟩ := hs
  exact ⟨a, vs, h1, h2, h3, h4, f.lt_of (by rw [h]; exact fun z => nomatch z)⟩
theorem Fm.wrOl (f : Fm K H T B fps σ e) {i : Nat} {a : Addr} {vs ys : List V} {ds : List D} (hv : σ[i]? = some (some (.ref a))) (hf : fps i = [a]) (hl : H a = some (.lst vs)) (hi : i < e.length) (r : RpAll K H T ys ds) :
    ∃ fps', Fm K (upd H a (.lst ys)) T B fps' σ (e.set i (.ol ds)) ∧ Ext B H T fps (upd H a (.lst ys)) T fps' := by
  have ha : a ∈ fps i := by rw [hf]; exact List.mem_cons_self
  have ne : ∀ b, b ∉ fps i → b ≠ a := fun b z q => z (q ▸ ha)
  refine ⟨_, f.wr hi (fp' := [a]) (fun b o h hb => by rw [upd_ne (ne b hb)]; exact h) (fun b o u h => by rw [upd_ne (fun q => by rw [q, hl] at h; cases h)]; exact h) (fun b h => upd_some h) ?_ (by simp) (fun b hb => .inl (by rw [hf]; exact hb))⟩
  refine ⟨a, ys, hv, rfl, upd_same, r.keep ⟨fun _ h => h, fun b o ht h => ?_, fun b o u h => ?_⟩⟩
  · rw [upd_ne (ne b fun z => f.dT i b z ht)]; exact h
  · rw [upd_ne (fun q => by rw [q, hl] at h; cases h)]; exact h
end
/-! ### t.count(x) -/
def tCnt (K : PySem.W.Frag) (to te : TE) : TE := fun σ H Q => to σ H fun x H1 => ∃ p us, x = .ref p ∧ SqF K H1 p us ∧ tCons te tNil σ H1 fun xs H2 => ∃ z ds d, xs = [z] ∧ SqF K H2 p us ∧ DpAll K H2 us ds ∧ Dp K H2 z d ∧ shallow (.list ds) d = true ∧ Q (.int (ds.countP fun y => PyData.eqv y d : Nat)) H2
theorem pe_count {X : Cx} {o z : Expr} {ap cp : Pos} {to te : TE} (hu : X.A.units + 66 < cLine) (ho : PE X o to) (hz : PE X z te) (po : plainX o = true) (pz : plainX z = true) (hl : sameLine ap cp = true) :
    PE X (.Call (.Attribute o (Str.ofString "count") ap) [z] [] cp) (tCnt X.K to te) := by
  refine ⟨fun pins s σ H Q I h => ?_⟩
  have hst := plainX_star pz [] X.env
  refine wpAny_Call_method_late (plainX_base po _ _ _) (by rw [hst]; rfl) hl rfl (thn (ho.run pins s σ H _ I h) fun v s1 ⟨x, H1, I1, r1, p, us, ex, hp, q1⟩ => ?_)
  subst ex
  cases r1
  obtain ⟨hz1, its, n, rv, e1⟩ := Inv.tupleF I1 hp
  refine ⟨"tuple", "tuple.count", PySem.F.plainAttrs_tuple, PySem.F.slot_tuple_count, PySem.F.type_tuple_count, ⟨_, e1, rfl⟩, fun a e => ?_, ?_⟩
  · cases e
    exact ⟨_, e1, rfl⟩
  have hA := (pa_cons hz pa_nil hst).run cp pins s1 σ H1 _ I1 q1
  rw [hst] at hA ⊢
  refine Calls.callWith_builtin rfl (Calls.evalArgs_plain ?_)
  refine thn hA fun vs s2 ⟨xs, H2, I2, r2, y, ds, d, ex, hp2, hd, hy, hsh, q2⟩ => ?_
  subst ex
  obtain ⟨u, rfl, ru⟩ := r2.one
  obtain ⟨hz2, its2, n2, rv2, e2⟩ := Inv.tupleF I2 hp2
  obtain ⟨as, hr⟩ := Dp.readsAll I2 ds us its2 hd rv2
  obtain ⟨bs, hb⟩ := Dp.reads I2 d y u hy ru
  have hsh' : X.A.units + 1 + min (PyData.depthAll ds) d.depth < cLine := by
    unfold shallow at hsh
    rw [Bool.or_eq_true, decide_eq_true_eq, decide_eq_true_eq, PyData.depth] at hsh
    omega
  exact PySem.SeqAt.count_tuple_data (vs := its2.toArray) ⟨_, e2, rfl, n2, rfl⟩ (by simpa using hr) hb (DpAll.plain hd) (Dp.plain hy) hsh' ⟨.int _, H2, I2.tok _, ⟨_, rfl⟩, q2⟩
section
variable {call : CallF} {XR : XRel} {n : Nat} {a b c : Ex} {es : Exs}
theorem OutOk.of_liftB {α β : Type} {e : Env} {x : Option α} {f : α → Env → Out β} {P : β → Env → Prop} {E : Exn → Env → Prop} (h : OutOk ((lift e x).bind f) P E) : ∃ a, x = some a ∧ OutOk (f a e) P E := (OutOk.bind h).of_lift
theorem RR.tupF {K : PySem.W.Frag} {H : Hp} {T B : Addr → Prop} {v : V} {r : R} {fp : List Addr} {xs : List D} (h : RR K H T B v r fp) (e : r.d = .tuple xs) : ∃ p vs, v = .ref p ∧ SqF K H p vs ∧
    ∀ (fps1 fps2 : Nat → List Addr) (H2 : Hp) (T2 : Addr → Prop), Ext B H T fps1 H2 T2 fps2 → SqF K H2 p vs ∧ DpAll K H2 vs xs := by
  cases r with
  | st d =>
    cases e
    obtain ⟨p, vs, rfl, h1, h2⟩ := Rq.tuple h.2
    exact ⟨p, vs, rfl, h1, fun _ _ H2 T2 x => ⟨h1.keep fun o u q => x.frz _ o u q, (h2.keep x.kept).dp⟩⟩
  | bor d =>
    cases e
    obtain ⟨p, vs, rfl, h1, h2⟩ := Rq.tuple h.2
    exact ⟨p, vs, rfl, h1, fun _ _ H2 T2 x => ⟨h1.keep fun o u q => x.frz _ o u q, (h2.keep x.keptB).dp⟩⟩
  | _ => cases e
theorem tup?_some {d : D} {xs : List D} (h : tup? d = some xs) : d = .tuple xs := by
  cases d <;> first | (cases h; done) | (cases h; rfl)
theorem ev_count (ha : EvP call XR n a) (hb : EvP call XR n b) : EvP call XR n (.count a b) := EvP.plain (fun _ z => nomatch z) fun X W G x ht => by
  unfold tr at ht
  split at ht
  · simp only [Bool.and_eq_true, decide_eq_true_eq] at ht
    obtain ⟨⟨⟨rfl, hl⟩, h1⟩, h2⟩ := ht
    refine ⟨PE.imp (pe_count G.hu (ha.pe G h1) (hb.pv G h2) (tr_plainX h1) (tr_plainX h2) hl) fun σ H Q ⟨T, B, fps, e, f, q⟩ => ?_, rfl⟩
    refine ⟨T, B, fps, e, f, (OutOk.bind q).mono (fun ra e1 q v H1 T1 fps1 fp1 p1 => ?_) fun _ _ q => q⟩
    obtain ⟨xs, hx, q⟩ := q.of_liftB
    have hx := tup?_some hx
    obtain ⟨p, us, rfl, s1, k1⟩ := p1.rr.tupF hx
    refine ⟨p, us, rfl, s1, T1, B, fps1, e1, p1.fm, (OutOk.bind q).mono (fun d e2 q w H2 T2 fps2 x2 f2 r2 => ?_) fun _ _ q => q.trans p1.ext⟩
    obtain ⟨r', hr', q⟩ := q.of_lift
    obtain ⟨hs, er⟩ := some_if hr'
    subst er
    obtain ⟨s2, d2⟩ := k1 _ _ _ _ x2
    exact ⟨w, xs, d, rfl, s2, d2, r2.dp, hs, done_st q (p1.ext.trans x2) f2 (.int _)⟩
  · cases ht
/-! ### methods of own lists -/
theorem isOl_some {s : Slot} (h : ∃ u, isOl s = some u) : ∃ xs, s = .ol xs := by
  obtain ⟨u, h⟩ := h
  cases s <;> first | (cases h; done) | exact ⟨_, rfl⟩
theorem pe_lm1 {X : Cx} {i : Nat} {y z : Expr} {yn : Str} {yp ap cp : Pos} {name : Str} {id : String} {r : V → List V → Hp → VK → Prop} {te : TE} (slot : PySem.Slot "list" name id) (hty : typeOf (.builtin id) = pure (.type "method_descriptor")) (hm : MtR X id r)
    (hn : nm X.N X.env.scope i yn = true) (hz : PE X z te) (pz : plainX z = true) (hl : sameLine ap cp = true) : PE X (.Call (.Attribute (.Name yn yp) name ap) [z] [] cp) (tBM X.K "list" r (tVar i) (tCons te tNil)) :=
  pe_bm PySem.F.plainAttrs_list slot hty hm (pe_name hn) (pa_cons hz pa_nil (plainX_star pz _ _)) rfl (by rw [plainX_star pz]; rfl) hl (plainX_star pz _ _) rfl
theorem ev_app (i : Nat) (ha : EvP call XR n a) : EvP call XR n (.app i a) := EvP.plain (fun _ z => nomatch z) fun X W G x ht => by
  unfold tr at ht
  split at ht
  · simp only [Bool.and_eq_true, decide_eq_true_eq] at ht
    obtain ⟨⟨⟨hn, rfl⟩, hl⟩, h1⟩ := ht
    refine ⟨PE.imp (pe_lm1 (y := .Name default default) PySem.slot_list_append PySem.type_list_append mt_append hn (ha.pv G h1) (tr_plainX h1) hl) fun σ H Q ⟨T, B, fps, e, f, q⟩ => ?_, rfl⟩
    obtain ⟨u, hu, q⟩ := q.of_liftB
    obtain ⟨xs, hx⟩ := isOl_some ⟨u, hu⟩
    obtain ⟨a, vs, hv, hf, hH, ra, hi⟩ := f.ol hx
    refine ⟨.ref a, hv, .inl ⟨rfl, vs, .inl (.inl hH)⟩, T, B, fps, e, f, (OutOk.bind q).mono (fun d e1 q w H1 T1 fps1 x1 f1 r1 => ?_) fun _ _ q => q⟩
    obtain ⟨s, hs, q⟩ := q.of_liftB
    cases he : slot e1 i <;> rw [he] at hs <;> first | (cases hs; done) | skip
    rename_i ys
    obtain ⟨hlt, rfl⟩ : ys.length < line ∧ Slot.ol (ys ++ [d]) = s := by
      simp only [appOf] at hs
      split at hs
      · exact ⟨‹_›, Option.some.inj hs⟩
      · cases hs
    obtain ⟨a', us, hv', hf', hH', ra', hi'⟩ := f1.ol he
    rw [hv] at hv'; cases hv'
    obtain ⟨fps2, f2, x2⟩ := f1.wrOl hv hf' hH' hi' (ra'.append (.one r1))
    exact ⟨a, us, w, rfl, rfl, hH', by rw [ra'.length, ← line_eq]; exact hlt, done_st q (x1.trans x2) f2 .non⟩
  · cases ht
theorem ev_ext (i : Nat) (ha : EvP call XR n a) : EvP call XR n (.ext i a) := EvP.plain (fun _ z => nomatch z) fun X W G x ht => by
  unfold tr at ht
  split at ht
  · simp only [Bool.and_eq_true, decide_eq_true_eq] at ht
    obtain ⟨⟨⟨hn, rfl⟩, hl⟩, h1⟩ := ht
    refine ⟨PE.imp (pe_lm1 (y := .Name default default) PySem.F.slot_list_extend PySem.F.type_list_extend (MtR.or (r := rExtL) (r' := rExtT X.K) mt_extL mt_extT) hn (ha.pv G h1) (tr_plainX h1) hl) fun σ H Q ⟨T, B, fps, e, f, q⟩ => ?_, rfl⟩
    obtain ⟨u, hu, q⟩ := q.of_liftB
    obtain ⟨xs, hx⟩ := isOl_some ⟨u, hu⟩
    obtain ⟨a, vs, hv, hf, hH, ra, hi⟩ := f.ol hx
    refine ⟨.ref a, hv, .inl ⟨rfl, vs, .inl (.inl hH)⟩, T, B, fps, e, f, (OutOk.bind q).mono (fun d e1 q w H1 T1 fps1 x1 f1 r1 => ?_) fun _ _ q => q⟩
    obtain ⟨s, hs, q'⟩ := q.of_liftB
    cases he : slot e1 i <;> rw [he] at hs <;> first | (cases hs; done) | skip
    rename_i ys
    obtain ⟨zs, hz, hs⟩ := Option.bind_eq_some_iff.mp (show (items d).bind _ = some s from hs)
    obtain ⟨hlt, rfl⟩ : ys.length + zs.length ≤ line ∧ Slot.ol (ys ++ zs) = s := by
      split at hs
      · exact ⟨‹_›, Option.some.inj hs⟩
      · cases hs
    obtain ⟨a', us, hv', hf', hH', ra', hi'⟩ := f1.ol he
    rw [hv] at hv'; cases hv'
    cases d with
    | list ds =>
      cases hz
      obtain ⟨b, ws, rfl, hb, rb⟩ := Rp.list r1
      obtain ⟨fps2, f2, x2⟩ := f1.wrOl hv hf' hH' hi' (ra'.append rb)
      exact .inl ⟨a, b, us, ws, rfl, rfl, hH', hb, by rw [ra'.length, rb.length, ← line_eq]; exact hlt, done_st q' (x1.trans x2) f2 .non⟩
    | tuple ds =>
      cases hz
      obtain ⟨b, ws, rfl, hb, rb⟩ := r1.tuple
      obtain ⟨fps2, f2, x2⟩ := f1.wrOl hv hf' hH' hi' (ra'.append rb)
      exact .inr ⟨a, b, us, ws, rfl, rfl, hH', hb, by rw [ra'.length, rb.length, ← line_eq]; exact hlt, done_st q' (x1.trans x2) f2 .non⟩
    | _ => cases hz
  · cases ht
theorem ev_pop (i : Nat) : EvP call XR n (.pop i) := EvP.plain (fun _ z => nomatch z) fun X W G x ht => by
  unfold tr at ht
  split at ht
  · simp only [Bool.and_eq_true, decide_eq_true_eq] at ht
    obtain ⟨⟨hn, rfl⟩, hl⟩ := ht
    refine ⟨PE.imp (pe_bm0 PySem.F.plainAttrs_list PySem.F.slot_list_pop PySem.F.type_list_pop mt_pop (pe_name hn) rfl hl) fun σ H Q ⟨T, B, fps, e, f, q⟩ => ?_, rfl⟩
    obtain ⟨p, hp, q⟩ := q.of_liftB
    cases he : slot e i <;> rw [he] at hp <;> first | (cases hp; done) | skip
    rename_i xs
    obtain ⟨d, hd, rfl⟩ := Option.map_eq_some_iff.mp (show xs.getLast?.map _ = some p from hp)
    obtain ⟨a, vs, hv, hf, hH, ra, hi⟩ := f.ol he
    rw [List.getLast?_eq_getElem?] at hd
    obtain ⟨w, hw, rw'⟩ := ra.get hd
    obtain ⟨fps2, f2, x2⟩ := f.wrOl hv hf hH hi ra.dropLast
    exact ⟨.ref a, hv, .inl ⟨rfl, vs, .inl (.inl hH)⟩, a, vs, w, rfl, rfl, hH, by rw [ra.length]; exact hw, done_st q x2 f2 (rw'.keep x2.kept)⟩
  · cases ht
theorem ev_popAt (i : Nat) (ha : EvP call XR n a) : EvP call XR n (.popAt i a) := EvP.plain (fun _ z => nomatch z) fun X W G x ht => by
  unfold tr at ht
  split at ht
  · simp only [Bool.and_eq_true, decide_eq_true_eq] at ht
    obtain ⟨⟨⟨hn, rfl⟩, hl⟩, h1⟩ := ht
    refine ⟨PE.imp (pe_lm1 (y := .Name default default) PySem.F.slot_list_pop PySem.F.type_list_pop mt_popAt hn (ha.pi G h1) (tr_plainX h1) hl) fun σ H Q ⟨T, B, fps, e, f, q⟩ => ?_, rfl⟩
    obtain ⟨u, hu, q⟩ := q.of_liftB
    obtain ⟨xs, hx⟩ := isOl_some ⟨u, hu⟩
    obtain ⟨a, vs, hv, hf, hH, ra, hi⟩ := f.ol hx
    refine ⟨.ref a, hv, .inl ⟨rfl, vs, .inl (.inl hH)⟩, T, B, fps, e, f, (OutOk.bind q).mono (fun z e1 q H1 T1 fps1 x1 f1 => ?_) fun _ _ q => q⟩
    obtain ⟨p, hp, q⟩ := q.of_liftB
    cases he : slot e1 i <;> rw [he] at hp <;> first | (cases hp; done) | skip
    rename_i ys
    obtain ⟨hsm, j, hj, d, hd, rfl⟩ : smallI z = true ∧ ∃ j, ixN ys.length z = some j ∧ ∃ d, ys[j]? = some d ∧ (d, Slot.ol (ys.eraseIdx j)) = p := by
      simp only [popAtOf] at hp
      split at hp
      · obtain ⟨j, hj, hp⟩ := Option.bind_eq_some_iff.mp hp
        obtain ⟨d, hd, hp⟩ := Option.map_eq_some_iff.mp hp
        exact ⟨‹_›, j, hj, d, hd, hp⟩
      · cases hp
    obtain ⟨a', us, hv', hf', hH', ra', hi'⟩ := f1.ol he
    rw [hv] at hv'; cases hv'
    obtain ⟨w, hw, rw'⟩ := ra'.get hd
    obtain ⟨fps2, f2, x2⟩ := f1.wrOl hv hf' hH' hi' (ra'.eraseIdx j)
    have hsm' : -(2 ^ 61) ≤ z ∧ z < 2 ^ 61 := (smallI_iff z).mp hsm
    exact ⟨a, us, z, j, w, rfl, rfl, hH', by omega, by omega, by rw [ra'.length]; exact (ixN_seq hj).1, hw, done_st q (x1.trans x2) f2 (rw'.keep x2.kept)⟩
  · cases ht
theorem ev_appNew (i : Nat) : EvP call XR n (.appNew i) := EvP.plain (fun _ z => nomatch z) fun X W G x ht => by
  unfold tr at ht
  split at ht
  · simp only [Bool.and_eq_true, decide_eq_true_eq] at ht
    obtain ⟨⟨hn, rfl⟩, hl⟩ := ht
    refine ⟨PE.imp (pe_lm1 (y := .Name default default) PySem.slot_list_append PySem.type_list_append mt_append hn (pe_lst pa_nil) rfl hl) fun σ H Q ⟨T, B, fps, e, f, q⟩ => ?_, rfl⟩
    obtain ⟨s, hs, q⟩ := q.of_liftB
    have key : ∃ a as xss, σ[i]? = some (some (.ref a)) ∧ fps i = a :: as ∧ H a = some (.lst (as.map .ref)) ∧ OwnAll X.K H T as xss ∧ i < e.length ∧ xss.length < line ∧ s = .ol2 (xss ++ [[]]) := by
      cases he : slot e i <;> rw [he] at hs <;> first | (cases hs; done) | skip
      · rename_i xs
        obtain ⟨a, vs, hv, hf, hH, ra, hi⟩ := f.ol he
        cases xs with
        | nil =>
          cases ra
          cases hs
          exact ⟨a, [], [], hv, hf, hH, .nil, hi, by decide, rfl⟩
        | cons _ _ => cases hs
      · rename_i xss
        have hsl := f.sl i
        rw [he] at hsl
        obtain ⟨a, as, hv, hf, hH, ra⟩ := hsl
        simp only [appNewOf] at hs
        split at hs
        · cases hs
          exact ⟨a, as, xss, hv, hf, hH, ra, f.lt_of (by rw [he]; exact fun z => nomatch z), ‹_›, rfl⟩
        · cases hs
    obtain ⟨a, as, xss, hv, hf, hH, ra, hi, hlt, rfl⟩ := key
    refine ⟨.ref a, hv, .inl ⟨rfl, _, .inl (.inl hH)⟩, by simp [line_eq], fun p hp => ?_⟩
    have hap : a ≠ p := fun z => by rw [z, hp] at hH; cases hH
    refine ⟨a, as.map .ref, .ref p, rfl, rfl, by rw [upd_ne hap]; exact hH, by rw [List.length_map, ra.length, ← line_eq]; exact hlt, ?_⟩
    have ha : a ∈ fps i := by rw [hf]; exact List.mem_cons_self
    have nfr : ∀ {b o u}, H b = some (.frz o u) → b ≠ a := fun h z => by rw [z, hH] at h; cases h
    obtain ⟨f2, x2⟩ := f.wr (H' := upd (upd H p (.lst [])) a (.lst (as.map V.ref ++ [.ref p]))) (s' := .ol2 (xss ++ [[]])) (fp' := a :: (as ++ [p])) hi
      (fun b o h hb => by rw [upd_ne (fun z => hb (by rw [z]; exact ha)), upd_ne (ne_of_none h hp)]; exact h) (fun b o u h => by rw [upd_ne (nfr h), upd_ne (ne_of_none h hp)]; exact h) (fun b h => upd_some (upd_some h))
      (by
        refine ⟨a, as ++ [p], hv, rfl, by rw [upd_same, List.map_append]; rfl, ?_⟩
        have hpa : p ∉ a :: as := fun z => by rw [← hf] at z; exact f.notNone hp z
        have go : ∀ {bs : List Addr} {yss : List (List D)}, (∀ b ∈ bs, b ∈ as) → OwnAll X.K H T bs yss → OwnAll X.K (upd (upd H p (.lst [])) a (.lst (as.map V.ref ++ [.ref p]))) T (bs ++ [p]) (yss ++ [[]]) := by
          intro bs yss hb h
          induction h with
          | nil => exact .cons (by rw [upd_ne (Ne.symm hap), upd_same]) .nil .nil
          | cons h1 h2 _ ih =>
            have hba := hb _ List.mem_cons_self
            have hnd := f.nd i
            rw [hf, List.nodup_cons] at hnd
            refine .cons (by rw [upd_ne (fun z => hnd.1 (by rw [← z]; exact hba)), upd_ne (ne_of_none h1 hp)]; exact h1) (h2.keep ⟨fun _ h => h, fun b o ht h => ?_, fun b o u h => ?_⟩) (ih fun b hb' => hb b (List.mem_cons_of_mem _ hb'))
            · rw [upd_ne (fun z => f.dT i a ha (by rw [← z]; exact ht)), upd_ne (ne_of_none h hp)]; exact h
            · rw [upd_ne (nfr h), upd_ne (ne_of_none h hp)]; exact h
        exact go (fun _ h => h) ra)
      (by
        have hnd := f.nd i
        rw [hf] at hnd
        have hpa : p ∉ a :: as := fun z => by rw [← hf] at z; exact f.notNone hp z
        rw [show a :: (as ++ [p]) = (a :: as) ++ [p] from rfl, List.nodup_append]
        refine ⟨hnd, by simp, fun b hb c hc => ?_⟩
        obtain rfl : c = p := by simpa using hc
        exact fun z => hpa (z ▸ hb))
      (fun b hb => by
        rw [show a :: (as ++ [p]) = (a :: as) ++ [p] from rfl, List.mem_append] at hb
        rcases hb with hb | hb
        · exact .inl (by rw [hf]; exact hb)
        · obtain rfl : b = p := by simpa using hb
          exact .inr hp)
    exact done_st q x2 f2 .non
  · cases ht
end
end MP
end

section
set_option autoImplicit false
set_option linter.all false
set_option maxRecDepth 100000
/-! Soundness of expressions, 9: a hidden slot; arguments and calls. -/
namespace MP
open PySem PySem.Spec PyProof.Rows L2

section
variable {K : PySem.W.Frag} {B T T1 T2 : Addr → Prop} {H H1 H2 : Hp} {fps fps1 fps2 : Nat → List Addr} {σ : L2.St} {e e1 e2 : Env}
theorem fpSet_nil_mem {i j : Nat} {a : Addr} (h : a ∈ fpSet fps i [] j) : j ≠ i ∧ a ∈ fps j := by
  by_cases hj : j = i
  · subst hj; rw [fpSet_same] at h; cases h
  · rw [fpSet_ne hj] at h; exact ⟨hj, h⟩
/-- a slot is out of sight -/
theorem Fm.hide (f : Fm K H T B fps σ e) {i : Nat} (hi : i < e.length) : Fm K H T B (fpSet fps i []) σ (e.set i .u) ∧ Ext B H T fps H T (fpSet fps i []) :=
  ⟨f.set hi rfl (fun _ _ => rfl) rfl List.nodup_nil (fun _ z => nomatch z) (fun _ z => nomatch z) (fun _ z => nomatch z), Ext.own fun _ z => nomatch z⟩
/-- .. and comes back -/
theorem Fm.unhide (f1 : Fm K H1 T1 B fps1 σ e1) {i : Nat} (hi : i < e1.length) (x2 : Ext B H1 T1 (fpSet fps1 i []) H2 T2 fps2) (f2 : Fm K H2 T2 B fps2 σ e2) :
    Fm K H2 T2 B (fpSet fps2 i (fps1 i)) σ (e2.set i (slot e1 i)) ∧ Ext B H1 T1 fps1 H2 T2 (fpSet fps2 i (fps1 i)) := by
  have out : ∀ a ∈ fps1 i, ∀ j, a ∉ fpSet fps1 i [] j := fun a ha j z => (fpSet_nil_mem z).1 (f1.dj j i a (fpSet_nil_mem z).2 ha)
  have som : ∀ a ∈ fps1 i, H1 a ≠ none := fun a ha z => f1.notNone z ha
  refine ⟨f2.set (by rw [← f2.len, f1.len]; exact hi) rfl (fun _ _ => rfl) ((f1.sl i).keep x2.kept x2.keptB fun a ha o h => x2.keep a o h (out a ha)) (f1.nd i) (fun a ha z => ?_) (fun a ha => f1.dB i a ha) (fun a ha j _ z => ?_), ?_⟩
  · rcases x2.nT a z with q | ⟨j, q⟩ | q
    · exact f1.dT i a ha q
    · exact out a ha j q
    · exact som a ha q
  · rcases x2.nF a j z with q | q
    · exact out a ha j q
    · exact som a ha q
  · refine ⟨x2.t, fun a o h hn => x2.keep a o h fun j z => hn j (fpSet_nil_mem z).2, x2.tb, x2.frz, fun a h => (x2.nT a h).imp id (Or.imp (fun ⟨j, z⟩ => ⟨j, (fpSet_nil_mem z).2⟩) id), fun a j h => ?_, x2.dm⟩
    by_cases hj : j = i
    · subst hj; rw [fpSet_same] at h; exact .inl h
    · rw [fpSet_ne hj] at h
      exact (x2.nF a j h).imp (fun z => (fpSet_nil_mem z).2) id
theorem OwnAll.set {b : Addr} {us : List V} {zs : List D} (k : Kept H H1 T T) : ∀ {as : List Addr} {xss : List (List D)} {j : Nat}, OwnAll K H T as xss → as[j]? = some b → as.Nodup → H1 b = some (.lst us) → RpAll K H1 T us zs → (∀ a ∈ as, a ≠ b → ∀ o, H a = some o → H1 a = some o) → OwnAll K H1 T as (xss.set j zs)
  | _, _, _, .nil, e, _, _, _, _ => by simp at e
  | _, _, 0, .cons h1 h2 t, e, nd, h3, h4, hk => by
    simp at e
    subst e
    exact .cons h3 h4 (t.keep k fun a ha => hk a (List.mem_cons_of_mem _ ha) fun z => (List.nodup_cons.mp nd).1 (by rw [← z]; exact ha))
  | _, _, j + 1, .cons h1 h2 t, e, nd, h3, h4, hk => by
    have e' : _ := (by simpa using e : _)
    have hb := List.mem_of_getElem? e'
    exact .cons (hk _ List.mem_cons_self (fun z => (List.nodup_cons.mp nd).1 (by rw [z]; exact hb)) _ h1) (h2.keep k) (OwnAll.set k t e' (List.nodup_cons.mp nd).2 h3 h4 fun a ha => hk a (List.mem_cons_of_mem _ ha))
end
section
variable {call : CallF} {XR : XRel} {n : Nat} {a b c : Ex} {es : Exs}
theorem ev_appAt (i : Nat) (ha : EvP call XR n a) (hb : EvP call XR n b) : EvP call XR n (.appAt i a b) := EvP.plain (fun _ z => nomatch z) fun X W G x ht => by
  unfold tr at ht
  split at ht
  · simp only [Bool.and_eq_true, decide_eq_true_eq] at ht
    obtain ⟨⟨⟨⟨hn, h1⟩, rfl⟩, hl⟩, h2⟩ := ht
    have p2 := tr_plainX h2
    refine ⟨PE.imp (pe_bm PySem.F.plainAttrs_list PySem.slot_list_append PySem.type_list_append mt_append (pe_ix ix_list (pe_name hn) (ha.pi G h1) (plainX_ix (tr_plainX h1))) (pa_cons (hb.pv G h2) pa_nil (plainX_star p2 _ _)) rfl (by rw [plainX_star p2]; rfl) hl (plainX_star p2 _ _) rfl) fun σ H Q ⟨T, B, fps, e, f, q⟩ => ?_, rfl⟩
    obtain ⟨r0, hr0, q⟩ := q.of_liftB
    obtain ⟨v, hv, _⟩ := f.look hr0
    refine ⟨v, hv, T, B, fps, e, f, (OutOk.bind q).mono (fun z e1 q H1 T1 fps1 x1 f1 => ?_) fun _ _ q => q⟩
    obtain ⟨p, hp, q⟩ := q.of_liftB
    cases he : slot e1 i <;> rw [he] at hp <;> first | (cases hp; done) | skip
    rename_i xss
    obtain ⟨j, hj, rfl⟩ := Option.map_eq_some_iff.mp (show (ixN xss.length z).map _ = some p from hp)
    have hi : i < e1.length := f1.lt_of (by rw [he]; exact fun z => nomatch z)
    have hsl := f1.sl i
    rw [he] at hsl
    obtain ⟨a, as, hv', hf, hH, ra⟩ := hsl
    rw [hv] at hv'; cases hv'
    have hjl : j < xss.length := (ixN_seq hj).2.1
    obtain ⟨b, us, hb1, hb2, _⟩ := ra.get (List.getElem?_eq_getElem hjl)
    obtain ⟨fu, xu⟩ := f1.hide hi
    refine ⟨a, as.map .ref, z, .ref b, rfl, rfl, .inl (.inl hH), ?_, .inl ⟨rfl, us, .inl (.inl hb2)⟩, T1, B, _, _, fu, (OutOk.bind q).mono (fun d e2 q w H2 T2 fps2 x2 f2 r2 => ?_) fun _ _ q => q.trans (x1.trans xu)⟩
    · unfold L2.atI
      rw [List.length_map, ra.length, show L2.ixN xss.length z = some j from hj]
      show (as.map V.ref)[j]? = _
      rw [List.getElem?_map, hb1]; rfl
    obtain ⟨ys, hy, q⟩ := q.of_liftB
    obtain ⟨hlt, q⟩ := q.of_ifP
    obtain ⟨f3, x3⟩ := f1.unhide hi x2 f2
    rw [he] at f3
    have hl2 : i < e2.length := by rw [← f2.len, f1.len]; exact hi
    have hsl := f3.sl i
    rw [fpSet_same, slot_set hl2, if_pos rfl] at hsl
    obtain ⟨a', as', hv', hf', hH', ra'⟩ := hsl
    rw [hf] at hf'
    cases hf'
    obtain ⟨b', us', hb1', hb2', hb3'⟩ := ra'.get hy
    rw [hb1] at hb1'
    cases hb1'
    have hbm : b ∈ as := List.mem_of_getElem? hb1
    have hbf : b ∈ fpSet fps2 i (fps1 i) i := by rw [fpSet_same, hf]; exact List.mem_cons_of_mem _ hbm
    have hnd := f1.nd i
    rw [hf, List.nodup_cons] at hnd
    have nfr : ∀ {c o u}, H2 c = some (.frz o u) → c ≠ b := fun h z => by rw [z, hb2'] at h; cases h
    have k2 : Kept H2 (upd H2 b (.lst (us' ++ [w]))) T2 T2 := ⟨fun _ h => h, fun c o ht h => by rw [upd_ne (fun z => f3.dT i b hbf (by rw [← z]; exact ht))]; exact h, fun c o u h => by rw [upd_ne (nfr h)]; exact h⟩
    obtain ⟨f4, x4⟩ := f3.wr (i := i) (H' := upd H2 b (.lst (us' ++ [w]))) (s' := .ol2 (xss.set j (ys ++ [d]))) (fp' := a :: as) (by rw [List.length_set]; exact hl2)
      (fun c o h hc => by rw [upd_ne (fun z => hc (by rw [z]; exact hbf))]; exact h) (fun c o u h => by rw [upd_ne (nfr h)]; exact h) (fun c h => upd_some h)
      ⟨a, as, hv, rfl, by rw [upd_ne (fun z => hnd.1 (by rw [z]; exact hbm))]; exact hH', OwnAll.set k2 ra' hb1 hnd.2 upd_same ((hb3'.append (.one r2)).keep k2) fun c hc hcb o h => by rw [upd_ne hcb]; exact h⟩
      (by rw [List.nodup_cons]; exact hnd) (fun c hc => .inl (by rw [fpSet_same, hf]; exact hc))
    rw [List.set_set] at f4
    exact ⟨b, us', w, rfl, rfl, hb2', by rw [hb3'.length, ← line_eq]; exact hlt, done_st q ((x1.trans x3).trans x4) f4 .non⟩
  · cases ht
end
end MP
end

section
set_option autoImplicit false
set_option linter.all false
set_option maxRecDepth 100000
/-! Soundness of expressions, 10: arguments and calls. -/
namespace MP
open PySem PySem.Spec PyProof.Rows L2

/-- an argument's value -/
inductive ARs (K : PySem.W.Frag) (H : Hp) (T : Addr → Prop) (σ : L2.St) : List V → List Arg → Prop
  | nil : ARs K H T σ [] []
  | val {v : V} {d : D} {vs : List V} {as : List Arg} : Rp K H T v d → ARs K H T σ vs as → ARs K H T σ (v :: vs) (.val d :: as)
  | lent {v : V} {i : Nat} {vs : List V} {as : List Arg} : σ[i]? = some (some v) → ARs K H T σ vs as → ARs K H T σ (v :: vs) (.lent i :: as)
  | io {v : V} {i : Nat} {vs : List V} {as : List Arg} : σ[i]? = some (some v) → ARs K H T σ vs as → ARs K H T σ (v :: vs) (.io i :: as)
section
variable {K : PySem.W.Frag} {B T T1 T2 : Addr → Prop} {H H1 H2 : Hp} {fps fps1 fps2 : Nat → List Addr} {σ : L2.St} {e e1 e2 : Env} {vs : List V} {as : List Arg} {ss : List MP.Slot}
theorem ARs.keep (k : Kept H H1 T T1) (h : ARs K H T σ vs as) : ARs K H1 T1 σ vs as := by
  induction h with
  | nil => exact .nil
  | val r _ ih => exact .val (r.keep k) ih
  | lent r _ ih => exact .lent r ih
  | io r _ ih => exact .io r ih
theorem ARs.length (h : ARs K H T σ vs as) : vs.length = as.length := by
  induction h <;> simp_all
/-- the places of the slot that argument k lends for change -/
def ioFp (fps : Nat → List Addr) (as : List Arg) (k : Nat) : List Addr := match as[k]? with
  | some (.io i) => fps i
  | _ => []
def lentB (B : Addr → Prop) (fps : Nat → List Addr) (as : List Arg) : Addr → Prop := fun a => B a ∨ ∃ i ∈ lentIxs as, a ∈ fps i
def ioPos : List Arg → Nat → Option Nat
  | [], _ => none
  | .io j :: r, i => if j = i then some 0 else (ioPos r i).map (· + 1)
  | _ :: r, i => (ioPos r i).map (· + 1)
theorem ioPos_get : ∀ {as : List Arg} {i k : Nat}, ioPos as i = some k → as[k]? = some (.io i)
  | [], _, _, h => by cases h
  | .io j :: r, i, k, h => by
    simp only [ioPos] at h
    split at h
    · cases h; rename_i e; subst e; rfl
    · obtain ⟨m, hm, rfl⟩ := Option.map_eq_some_iff.mp h
      simpa using ioPos_get hm
  | .val d :: r, i, k, h => by
    obtain ⟨m, hm, rfl⟩ := Option.map_eq_some_iff.mp (show (ioPos r i).map (· + 1) = some k from h)
    simpa using ioPos_get hm
  | .lent j :: r, i, k, h => by
    obtain ⟨m, hm, rfl⟩ := Option.map_eq_some_iff.mp (show (ioPos r i).map (· + 1) = some k from h)
    simpa using ioPos_get hm
theorem mem_ioIxs : ∀ {as : List Arg} {k i : Nat}, as[k]? = some (.io i) → i ∈ ioIxs as
  | [], _, _, h => by simp at h
  | a :: r, 0, i, h => by simp at h; subst h; exact List.mem_cons_self
  | a :: r, k + 1, i, h => by
    have := mem_ioIxs (as := r) (k := k) (i := i) (by simpa using h)
    cases a <;> first | exact List.mem_cons_of_mem _ this | exact this
theorem ioPos_of : ∀ {as : List Arg} {i k : Nat}, as[k]? = some (.io i) → (ioIxs as).Nodup → ioPos as i = some k
  | [], _, _, h, _ => by simp at h
  | .io j :: r, i, 0, h, nd => by simp at h; subst h; simp [ioPos]
  | .io j :: r, i, k + 1, h, nd => by
    have h : r[k]? = some (.io i) := by simpa using h
    have nd : j ∉ ioIxs r ∧ (ioIxs r).Nodup := by simpa [ioIxs] using nd
    have := ioPos_of h nd.2
    simp only [ioPos]
    rw [if_neg (fun z => nd.1 (by rw [z]; exact mem_ioIxs h)), this]; rfl
  | .val d :: r, i, 0, h, nd => by simp at h
  | .val d :: r, i, k + 1, h, nd => by
    show (ioPos r i).map _ = _
    rw [ioPos_of (as := r) (k := k) (by simpa using h) nd]; rfl
  | .lent d :: r, i, 0, h, nd => by simp at h
  | .lent d :: r, i, k + 1, h, nd => by
    show (ioPos r i).map _ = _
    rw [ioPos_of (as := r) (k := k) (by simpa using h) nd]; rfl
theorem mem_ioIxs' : ∀ {as : List Arg} {i : Nat}, i ∈ ioIxs as → ∃ k : Nat, as[k]? = some (.io i)
  | [], _, h => by cases h
  | .io j :: r, i, h => by
    rcases List.mem_cons.mp h with e | h
    · subst e; exact ⟨0, rfl⟩
    · obtain ⟨k, hk⟩ := mem_ioIxs' h; exact ⟨k + 1, by simpa using hk⟩
  | .val _ :: r, i, h => by obtain ⟨k, hk⟩ := mem_ioIxs' (as := r) h; exact ⟨k + 1, by simpa using hk⟩
  | .lent _ :: r, i, h => by obtain ⟨k, hk⟩ := mem_ioIxs' (as := r) h; exact ⟨k + 1, by simpa using hk⟩
theorem ioPos_none {as : List Arg} {i k : Nat} (nd : (ioIxs as).Nodup) (h : ioPos as i = none) : as[k]? ≠ some (.io i) := fun z => by
  rw [ioPos_of z nd] at h; cases h
theorem backs_len : ∀ {as : List Arg} {ss : List MP.Slot} {e : Env}, (backs as ss e).length = e.length
  | [], _, _ => by simp [backs]
  | .io i :: r, [], _ => by simp [backs]
  | .val i :: r, [], _ => by simp [backs]
  | .lent i :: r, [], _ => by simp [backs]
  | .io i :: r, s :: ss, e => by
    show (backs r ss (e.set i s.own)).length = _
    rw [backs_len, List.length_set]
  | .val i :: r, s :: ss, e => backs_len (as := r) (ss := ss)
  | .lent i :: r, s :: ss, e => backs_len (as := r) (ss := ss)
theorem backs_slot : ∀ {as : List Arg} {ss : List MP.Slot} {e : Env}, ss.length = as.length → (ioIxs as).Nodup → (∀ i ∈ ioIxs as, i < e.length) → ∀ i, slot (backs as ss e) i = match ioPos as i with
    | some k => ((ss[k]?).getD .u).own
    | none => slot e i
  | [], [], _, _, _, _, i => rfl
  | .io j :: r, s :: ss, e, hl, nd, hb, i => by
    have nd : j ∉ ioIxs r ∧ (ioIxs r).Nodup := by simpa [ioIxs] using nd
    show slot (backs r ss (e.set j s.own)) i = _
    rw [backs_slot (by simpa using hl) nd.2 (fun i h => by rw [List.length_set]; exact hb i (List.mem_cons_of_mem _ h)) i]
    have hj : j < e.length := hb j List.mem_cons_self
    simp only [ioPos]
    by_cases hji : j = i
    · subst hji
      rw [if_pos rfl]
      cases hp : ioPos r j with
      | some k => exact absurd (mem_ioIxs (ioPos_get hp)) nd.1
      | none => show slot (e.set j s.own) j = _; rw [slot_set hj, if_pos rfl]; rfl
    · rw [if_neg hji]
      cases hp : ioPos r i with
      | some k => simp
      | none => show slot (e.set j s.own) i = _; rw [slot_set hj, if_neg (Ne.symm hji)]; rfl
  | .val d :: r, s :: ss, e, hl, nd, hb, i => by
    show slot (backs r ss e) i = _
    rw [backs_slot (as := r) (by simpa using hl) nd hb i]
    simp only [ioPos]
    cases hp : ioPos r i <;> simp
  | .lent d :: r, s :: ss, e, hl, nd, hb, i => by
    show slot (backs r ss e) i = _
    rw [backs_slot (as := r) (by simpa using hl) nd hb i]
    simp only [ioPos]
    cases hp : ioPos r i <;> simp
theorem argSlots_get : ∀ {as : List Arg} {ss : List MP.Slot}, argSlots e as = some ss → ss.length = as.length ∧ ∀ (k : Nat) (a : Arg), as[k]? = some a → ∃ s, a.slot e = some s ∧ ss[k]? = some s
  | [], _, h => by cases h; exact ⟨rfl, fun k a h => by simp at h⟩
  | a :: r, _, h => by
    obtain ⟨s, hs, h⟩ := Option.bind_eq_some_iff.mp (show (a.slot e).bind _ = _ from h)
    obtain ⟨ss, hss, rfl⟩ := Option.map_eq_some_iff.mp h
    obtain ⟨h1, h2⟩ := argSlots_get hss
    refine ⟨by simp [h1], fun k b hb => ?_⟩
    cases k with
    | zero => simp at hb; subst hb; exact ⟨s, hs, rfl⟩
    | succ k => obtain ⟨t, h3, h4⟩ := h2 k b (by simpa using hb); exact ⟨t, h3, by simpa using h4⟩
theorem ARs.get : ∀ {vs : List V} {as : List Arg} {k : Nat} {a : Arg}, ARs K H T σ vs as → as[k]? = some a → ∃ v, vs[k]? = some v ∧ match a with
    | .val d => Rp K H T v d
    | .lent i => σ[i]? = some (some v)
    | .io i => σ[i]? = some (some v)
  | _, _, _, _, .nil, h => by simp at h
  | _, _, 0, _, .val r _, h => by simp at h; subst h; exact ⟨_, rfl, r⟩
  | _, _, 0, _, .lent r _, h => by simp at h; subst h; exact ⟨_, rfl, r⟩
  | _, _, 0, _, .io r _, h => by simp at h; subst h; exact ⟨_, rfl, r⟩
  | _, _, k + 1, _, .val _ t, h => by obtain ⟨v, h1, h2⟩ := ARs.get (k := k) t (by simpa using h); exact ⟨v, by simpa using h1, h2⟩
  | _, _, k + 1, _, .lent _ t, h => by obtain ⟨v, h1, h2⟩ := ARs.get (k := k) t (by simpa using h); exact ⟨v, by simpa using h1, h2⟩
  | _, _, k + 1, _, .io _ t, h => by obtain ⟨v, h1, h2⟩ := ARs.get (k := k) t (by simpa using h); exact ⟨v, by simpa using h1, h2⟩
theorem SR.liftB {B1 : Addr → Prop} {vo : Option (Option V)} {s : MP.Slot} {fp : List Addr} (h : SR K H T B vo s fp) (hb : ∀ a, B a → B1 a) : SR K H T B1 vo s fp := by
  cases s with
  | b d => obtain ⟨h0, x, h1, h2⟩ := h; exact ⟨h0, x, h1, h2.keep (.refl fun a z => z.imp id (hb a))⟩
  | u => exact h
  | v d => exact h
  | ol xs => exact h
  | ol2 xss => exact h
theorem OwnAll.rq {T' : Addr → Prop} {kl : Prop} : ∀ {as : List Addr} {xss : List (List D)}, (∀ a, T a → T' a) → (∀ a ∈ as, T' a) → OwnAll K H T as xss → RqAll K H T' kl (as.map V.ref) (xss.map PyData.list)
  | _, _, _, _, .nil => .nil
  | _, _, ht, hm, .cons h1 h2 t => .cons (.lst (.inl ⟨hm _ List.mem_cons_self, .inl h1⟩) ((h2.keep (.refl ht)).weak)) (OwnAll.rq ht (fun a z => hm a (List.mem_cons_of_mem _ z)) t)
/-- a slot that is lent for looks -/
theorem SR.lend {B1 : Addr → Prop} {vo : Option (Option V)} {s s' : MP.Slot} {fp : List Addr} (h : SR K H T B vo s fp) (hs : s.lend = some s') (hb : ∀ a, B a → B1 a) (hf : ∀ a ∈ fp, B1 a) : SR K H T B1 vo s' [] := by
  cases s with
  | u => cases hs
  | v d => cases hs; obtain ⟨h0, h1⟩ := h; exact ⟨rfl, h1⟩
  | b d => cases hs; obtain ⟨h0, x, h1, h2⟩ := h; exact ⟨rfl, x, h1, h2.keep (.refl fun a z => z.imp id (hb a))⟩
  | ol xs =>
    cases hs
    obtain ⟨a, vs, h1, h2, h3, h4⟩ := h
    exact ⟨rfl, _, h1, .lst (.inl ⟨.inr (hf a (by rw [h2]; exact List.mem_cons_self)), .inl h3⟩) ((RqAll.keep (.refl fun a z => .inl z) h4).weak)⟩
  | ol2 xss =>
    cases hs
    obtain ⟨a, as, h1, h2, h3, h4⟩ := h
    exact ⟨rfl, _, h1, .lst (.inl ⟨.inr (hf a (by rw [h2]; exact List.mem_cons_self)), .inl h3⟩) (h4.rq (fun a z => .inl z) fun a z => .inr (hf a (by rw [h2]; exact List.mem_cons_of_mem _ z)))⟩
theorem argsOk_of (h : argsOk as = true) : (ioIxs as).Nodup ∧ ∀ i ∈ ioIxs as, i ∉ lentIxs as := by
  unfold argsOk at h
  rw [Bool.and_eq_true, decide_eq_true_eq] at h
  refine ⟨h.1, fun i hi z => ?_⟩
  have := List.all_eq_true.mp h.2 i hi
  simp at this
  exact this z
theorem mem_lentIxs : ∀ {as : List Arg} {k i : Nat}, as[k]? = some (.lent i) → i ∈ lentIxs as
  | [], _, _, h => by simp at h
  | a :: r, 0, i, h => by simp at h; subst h; exact List.mem_cons_self
  | a :: r, k + 1, i, h => by
    have := mem_lentIxs (as := r) (k := k) (i := i) (by simpa using h)
    cases a <;> first | exact List.mem_cons_of_mem _ this | exact this
theorem ioFp_mem {k : Nat} {a : Addr} (h : a ∈ ioFp fps as k) : ∃ i, as[k]? = some (.io i) ∧ a ∈ fps i := by
  unfold ioFp at h
  split at h
  · exact ⟨_, ‹_›, h⟩
  · cases h
/-- the callee's frame at its entry -/
theorem Fm.enter (f : Fm K H T B fps σ e) (ha : ARs K H T σ vs as) (hs : argSlots e as = some ss) (ok : argsOk as = true) : Fm K H T (lentB B fps as) (ioFp fps as) (vs.map some) ss := by
  obtain ⟨nd, dj⟩ := argsOk_of ok
  obtain ⟨hl, hg⟩ := argSlots_get hs
  refine ⟨by rw [List.length_map, ha.length, hl], fun k => ?_, fun k => ?_, fun k l a h1 h2 => ?_, fun k a h => ?_, fun k a h z => ?_, f.td, fun a z => ?_⟩
  · cases hk : as[k]? with
    | none =>
      have h1 : slot ss k = .u := by
        unfold slot
        rw [List.getElem?_eq_none (by rw [hl]; exact List.getElem?_eq_none_iff.mp hk)]; rfl
      have h2 : ioFp fps as k = [] := by unfold ioFp; rw [hk]
      rw [h1, h2]; rfl
    | some a =>
      obtain ⟨s, h1, h2⟩ := hg k a hk
      obtain ⟨v, h3, h4⟩ := ha.get hk
      have h5 : slot ss k = s := by unfold slot; rw [h2]; rfl
      have h6 : (vs.map some)[k]? = some (some v) := by rw [List.getElem?_map, h3]; rfl
      rw [h5, h6]
      cases a with
      | val d =>
        cases h1
        have h2 : ioFp fps as k = [] := by unfold ioFp; rw [hk]
        rw [h2]
        exact ⟨rfl, v, rfl, h4⟩
      | lent i =>
        have h2 : ioFp fps as k = [] := by unfold ioFp; rw [hk]
        rw [h2]
        have q := f.sl i
        rw [show σ[i]? = some (some v) from h4] at q
        exact q.lend h1 (fun _ z => .inl z) fun a z => .inr ⟨i, mem_lentIxs hk, z⟩
      | io i =>
        have h2 : ioFp fps as k = fps i := by unfold ioFp; rw [hk]
        rw [h2]
        have q := f.sl i
        rw [show σ[i]? = some (some v) from h4] at q
        have hse : s = slot e i := by
          revert h1
          show (match slot e i with | .ol xs => some (MP.Slot.ol xs) | .ol2 xss => some (.ol2 xss) | _ => none) = some s → _
          split
          · intro z; cases z; symm; assumption
          · intro z; cases z; symm; assumption
          · intro z; cases z
        rw [hse]
        exact q.liftB fun _ z => .inl z
  · unfold ioFp
    split
    · exact f.nd _
    · exact List.nodup_nil
  · obtain ⟨i, hi, h1⟩ := ioFp_mem h1
    obtain ⟨j, hj, h2⟩ := ioFp_mem h2
    have := f.dj i j a h1 h2
    subst this
    have e1 := ioPos_of hi nd
    rw [ioPos_of hj nd] at e1
    cases e1; rfl
  · obtain ⟨i, hi, h⟩ := ioFp_mem h
    exact f.dT i a h
  · obtain ⟨i, hi, h⟩ := ioFp_mem h
    rcases z with z | ⟨j, hj, z⟩
    · exact f.dB i a h z
    · have := f.dj i j a h z
      subst this
      exact dj _ (mem_ioIxs hi) hj
  · rcases z with z | ⟨j, hj, z⟩
    · exact f.bd a z
    · exact fun q => f.notNone q z
theorem SR.ownB {B1 : Addr → Prop} {vo : Option (Option V)} {s : MP.Slot} {fp : List Addr} (h : SR K H T B vo s fp) : SR K H T B1 vo s.own fp := by
  cases s with
  | b d => exact h.1
  | u => exact h
  | v d => exact h
  | ol xs => exact h
  | ol2 xss => exact h
/-- the caller's places behind the call -/
def backFp (fps fpsC : Nat → List Addr) (as : List Arg) (i : Nat) : List Addr := match ioPos as i with
  | some k => fpsC k
  | none => fps i
/-- the caller's frame behind the call -/
theorem Fm.back {outs : List MP.Slot} (f : Fm K H T B fps σ e) (ha : ARs K H T σ vs as) (hs : argSlots e as = some ss) (ok : argsOk as = true) (x : Ext (lentB B fps as) H T (ioFp fps as) H1 T1 fps1) (f1 : Fm K H1 T1 (lentB B fps as) fps1 (vs.map some) outs) :
    Fm K H1 T1 B (backFp fps fps1 as) σ (backs as outs e) ∧ Ext B H T fps H1 T1 (backFp fps fps1 as) ∧ ∀ a, H a = none → (∀ k, a ∉ fps1 k) → ∀ i, a ∉ backFp fps fps1 as i := by
  obtain ⟨nd, dj⟩ := argsOk_of ok
  obtain ⟨hl, hg⟩ := argSlots_get hs
  have hol : outs.length = as.length := by rw [← f1.len, List.length_map, ha.length]
  have hlt : ∀ i ∈ ioIxs as, i < e.length := fun i hi => by
    obtain ⟨k, hk⟩ := mem_ioIxs' hi
    obtain ⟨s, h1, _⟩ := hg k _ hk
    refine f.lt_of fun z => ?_
    rw [show (Arg.io i).slot e = (match slot e i with | .ol xs => some (MP.Slot.ol xs) | .ol2 xss => some (.ol2 xss) | _ => none) from rfl, z] at h1
    cases h1
  have toF : ∀ {k a}, a ∈ ioFp fps as k → ∃ i, a ∈ fps i := fun h => let ⟨i, _, z⟩ := ioFp_mem h; ⟨i, z⟩
  have notIo : ∀ {i a}, ioPos as i = none → a ∈ fps i → ∀ k, a ∉ ioFp fps as k := fun {i a} hn h k z => by
    obtain ⟨j, hj, z⟩ := ioFp_mem z
    have := f.dj i j a h z
    subst this
    exact ioPos_none nd hn hj
  have some' : ∀ {i a}, a ∈ fps i → H a ≠ none := fun h z => f.notNone z h
  refine ⟨⟨by rw [backs_len, f.len], fun i => ?_, fun i => ?_, fun i j a h1 h2 => ?_, fun i a h z => ?_, fun i a h z => ?_, f1.td, fun a z => f1.bd a (.inl z)⟩, ⟨x.t, fun a o h hn => x.keep a o h fun k z => ?_, fun a o h q => x.tb a o (h.imp id .inl) q, x.frz, fun a h => (x.nT a h).imp id (Or.imp (fun ⟨k, z⟩ => toF z) id), fun a i h => ?_, x.dm⟩, fun a hn hk i z => ?_⟩
  · rw [backs_slot hol nd hlt i]
    unfold backFp
    cases hp : ioPos as i with
    | some k =>
      obtain ⟨v, h3, h4⟩ := ha.get (ioPos_get hp)
      have q := f1.sl k
      rw [show (vs.map some)[k]? = σ[i]? by rw [List.getElem?_map, h3, show σ[i]? = some (some v) from h4]; rfl] at q
      exact q.ownB
    | none => exact (f.sl i).keep x.kept ⟨fun a h => h.imp (x.t a) id, fun a o h q => x.tb a o (h.imp id .inl) q, x.frz⟩ fun a h o q => x.keep a o q (notIo hp h)
  · unfold backFp
    cases hp : ioPos as i with
    | some k => exact f1.nd k
    | none => exact f.nd i
  · unfold backFp at h1 h2
    have cross : ∀ {i j k a}, ioPos as i = some k → ioPos as j = none → a ∈ fps1 k → a ∉ fps j := fun {i j k a} hi hj h z => by
      rcases x.nF a k h with q | q
      · exact notIo hj z k q
      · exact some' z q
    cases hp : ioPos as i with
    | some k =>
      rw [hp] at h1
      cases hq : ioPos as j with
      | some l =>
        rw [hq] at h2
        have := f1.dj k l a h1 h2
        subst this
        have e1 := ioPos_get hp
        rw [ioPos_get hq] at e1
        cases e1; rfl
      | none => rw [hq] at h2; exact absurd h2 (cross hp hq h1)
    | none =>
      rw [hp] at h1
      cases hq : ioPos as j with
      | some l => rw [hq] at h2; exact absurd h1 (cross hq hp h2)
      | none => rw [hq] at h2; exact f.dj i j a h1 h2
  · unfold backFp at h
    cases hp : ioPos as i with
    | some k => rw [hp] at h; exact f1.dT k a h z
    | none =>
      rw [hp] at h
      rcases x.nT a z with q | ⟨k, q⟩ | q
      · exact f.dT i a h q
      · exact notIo hp h k q
      · exact some' h q
  · unfold backFp at h
    cases hp : ioPos as i with
    | some k => rw [hp] at h; exact f1.dB k a h (.inl z)
    | none => rw [hp] at h; exact f.dB i a h z
  · obtain ⟨i, z⟩ := toF z
    exact hn i z
  · unfold backFp at h
    cases hp : ioPos as i with
    | some k => rw [hp] at h; exact (x.nF a k h).imp (fun z => by
        obtain ⟨j, hj, z⟩ := ioFp_mem z
        rw [ioPos_get hp] at hj
        cases hj; exact z) id
    | none => rw [hp] at h; exact .inl h
  · unfold backFp at z
    cases hp : ioPos as i with
    | some k => rw [hp] at z; exact hk k z
    | none => rw [hp] at z; exact some' z hn
end
def rdA (K : PySem.W.Frag) (XR : XRel) (W : WX) (o : Env → Out (List Arg)) : TA := fun σ H Q => ∃ T B fps e, Fm K H T B fps σ e ∧ OutOk (o e) (fun as e' => ∀ vs H' T' fps', Ext B H T fps H' T' fps' → Fm K H' T' B fps' σ e' → ARs K H' T' σ vs as → Q vs H') (eArm K XR W B H T fps σ)
def EvAP (call : CallF) (XR : XRel) (n : Nat) (es : Exs) : Prop := ∀ (X : Cx) (W : WX), Gd X call XR W n → ∀ xs : List Expr, trArgs X.N es X.env.scope xs = true → PA X xs (rdA X.K XR W (evArgs call es)) ∧ (backTo default (starEach xs X.env)).any (·.1) = false
section
variable {call : CallF} {XR : XRel} {n : Nat} {a b c : Ex} {es : Exs}
theorem eva_nil : EvAP call XR n .nil := fun X W G xs ht => by
  unfold trArgs at ht
  cases xs with
  | nil => exact ⟨PA.imp pa_nil fun σ H Q ⟨T, B, fps, e, f, q⟩ => q [] H T fps .refl f .nil, rfl⟩
  | cons _ _ => cases ht
theorem star_any {pos : Pos} {x : Expr} {xs : List Expr} {env : PySem.Env} (h1 : plainX x = true) (h2 : (backTo pos (starEach xs env)).any (·.1) = false) : (backTo pos (starEach (x :: xs) env)).any (·.1) = false := by
  rw [plainX_star h1]
  show (false || (backTo pos (starEach xs env)).any (·.1)) = false
  rw [h2]; rfl
theorem eva_cons (hi : (∀ i, a ≠ .io i) → EvP call XR n a) (hr : EvAP call XR n es) : EvAP call XR n (.cons a es) := fun X W G xs ht => by
  unfold trArgs at ht
  cases xs with
  | nil => cases ht
  | cons y ys =>
    rw [Bool.and_eq_true] at ht
    obtain ⟨h1, h2⟩ := ht
    obtain ⟨pr, sr⟩ := hr X W G _ h2
    -- a name that is looked at
    have nameC : ∀ (i : Nat) (mk : Nat → Arg) (z : Str) (p : Pos), y = .Name z p → (∀ (v : V) (vs : List V) (as : List Arg) (σ : L2.St) (H : Hp) (T : Addr → Prop), σ[i]? = some (some v) → ARs X.K H T σ vs as → ARs X.K H T σ (v :: vs) (mk i :: as)) → (∀ e, evArgs call (.cons a es) e = (lift e (slot e i).look).bind fun _ e => (evArgs call es e).bind fun as e2 => .ok (mk i :: as) e2) →
        nm X.N X.env.scope i z = true → PA X (y :: ys) (rdA X.K XR W (evArgs call (.cons a es))) ∧ (backTo default (starEach (y :: ys) X.env)).any (·.1) = false := fun i mk z p ey hmk he ht => by
      subst ey
      refine ⟨PA.imp (pa_cons (pe_name ht) pr rfl) fun σ H Q ⟨T, B, fps, e, f, q⟩ => ?_, star_any rfl sr⟩
      rw [he] at q
      obtain ⟨r0, hr0, q⟩ := q.of_liftB
      obtain ⟨v, hv, _⟩ := f.look hr0
      refine ⟨v, hv, T, B, fps, e, f, (OutOk.bind q).mono (fun as e2 q vs H2 T2 fps2 x2 f2 r2 => ?_) fun _ _ q => q⟩
      exact q _ H2 T2 fps2 x2 f2 (hmk v vs as σ H2 T2 hv r2)
    have valC : (∀ e, evArgs call (.cons a es) e = (valOf (ev call a e)).bind fun d e1 => (evArgs call es e1).bind fun as e2 => .ok (.val d :: as) e2) → (∀ i, a ≠ .io i) → tr X.N a X.env.scope y = true → PA X (y :: ys) (rdA X.K XR W (evArgs call (.cons a es))) ∧ (backTo default (starEach (y :: ys) X.env)).any (·.1) = false := fun he ni ht => by
      have py := tr_plainX ht
      refine ⟨PA.imp (pa_cons ((hi ni).pv G ht) pr (plainX_star py _ _)) fun σ H Q ⟨T, B, fps, e, f, q⟩ => ?_, star_any py sr⟩
      rw [he] at q
      refine ⟨T, B, fps, e, f, (OutOk.bind q).mono (fun d e1 q v H1 T1 fps1 x1 f1 r1 => ?_) fun _ _ q => q⟩
      refine ⟨T1, B, fps1, e1, f1, (OutOk.bind q).mono (fun as e2 q vs H2 T2 fps2 x2 f2 r2 => ?_) fun _ _ q => q.trans x1⟩
      exact q _ H2 T2 fps2 (x1.trans x2) f2 (.val (r1.keep x2.kept) r2)
    cases a with
    | io i =>
      dsimp only at h1
      split at h1
      · exact nameC i .io _ _ rfl (fun _ _ _ _ _ _ h r => .io h r) (fun _ => rfl) h1
      · cases h1
    | pk i =>
      have h1 : tr X.N (.pk i) X.env.scope y = true := h1
      unfold tr at h1
      split at h1
      · exact nameC i .lent _ _ rfl (fun _ _ _ _ _ _ h r => .lent h r) (fun _ => rfl) h1
      · cases h1
    | _ => exact valC (fun _ => rfl) (fun _ z => nomatch z) h1
theorem RR.free {K : PySem.W.Frag} {H : Hp} {T B B1 : Addr → Prop} {v : V} {r : R} {fp : List Addr} (h : RR K H T B v r fp) (hf : r.free = true) : RR K H T B1 v r fp := by
  cases r with
  | st d => exact h
  | fr xs => exact h
  | _ => cases hf
theorem ev_call (f : String) (hs : EvAP call XR n es) : EvP call XR n (.call f es) := EvP.plain (fun _ z => nomatch z) fun X W G x ht => by
  unfold tr at ht
  split at ht
  · rename_i g p y ys pos
    rw [Bool.and_eq_true] at ht
    obtain ⟨hg, h2⟩ := ht
    obtain ⟨rfl, hg1, hg2⟩ := gl_of hg
    refine ⟨?_, rfl⟩
    cases hc : call.fn f with
    | some g =>
      obtain ⟨fa, fd, ps, hm, hk, hb, F⟩ := G.calls f g hc
      obtain ⟨pa, sa⟩ := hs X W G _ h2
      have hst : starEach (y :: ys) X.env = (false, eval y X.env) :: starEach ys X.env := by
        cases y with
        | Starred _ _ => cases sa
        | _ => rfl
      have hpl : (backTo pos (starEach ys X.env)).any (·.1) = false := by
        rw [hst] at sa
        have e : ∀ (l : List (Bool × Sem Value)) (p q : Pos), (backTo p l).any (·.1) = (backTo q l).any (·.1) := fun l p q => by
          unfold backTo
          rw [List.any_map, List.any_map]; rfl
        rw [e _ pos default]
        exact (Bool.or_eq_false_iff.mp (show (false || (backTo default (starEach ys X.env)).any (·.1)) = false from sa)).2
      refine PE.imp (pe_callS (E := WE W) F G.room hg1 hm hk hb.1 (passAt G.tk) pa hg2 hst hpl) fun σ H Q ⟨T, B, fps, e, fm, q⟩ => ?_
      have q : OutOk (ev call (.call f es) e) _ _ := q
      unfold ev at q
      rw [hc] at q
      refine ⟨T, B, fps, e, fm, (OutOk.bind q).mono (fun as e1 q vs H1 T1 fps1 x1 f1 r1 => ?_) fun _ _ q => q⟩
      obtain ⟨ss, hss, q⟩ := q.of_liftB
      obtain ⟨hok, q⟩ := q.of_if
      refine ⟨T1, lentB B fps1 as, ioFp fps1 as, ss, f1.enter r1 hss hok, ?_⟩
      cases hcf : g ss with
      | ret r outs =>
        rw [hcf] at q
        obtain ⟨hfr, q⟩ := OutOk.of_if q
        intro v H2 T2 fps2 fp p
        obtain ⟨f2, x2, n2⟩ := f1.back r1 hss hok p.ext p.fm
        refine q v H2 T2 _ fp ⟨x1.trans x2, f2, p.rr.free hfr, p.nd, fun a ha => ?_⟩
        obtain ⟨n1, nT, nf, nB⟩ := p.nw a ha
        exact ⟨x1.back n1, nT, n2 a n1 nf, fun z => nB (.inl z)⟩
      | exc z outs =>
        rw [hcf] at q
        intro H2 T2 fps2 x2 f2 cls d hx
        obtain ⟨f3, x3, _⟩ := f1.back r1 hss hok x2 f2
        exact q H2 T2 _ (x1.trans x3) f3 cls d hx
      | bad => rw [hcf] at q; exact q.elim
    | none =>
      refine ⟨fun pins s σ H Q I ⟨T, B, fps, e, fm, q⟩ => ?_⟩
      have q : OutOk (ev call (.call f es) e) _ _ := q
      unfold ev at q
      rw [hc] at q
      exact q.elim
  · cases ht
end
end MP
end

section
set_option autoImplicit false
set_option linter.all false
set_option maxRecDepth 100000
/-! Soundness of expressions, 11: what is walked. -/
namespace MP
open PySem PySem.Spec PyProof.Rows L2

/-- from one state to a later one, slots moved about -/
structure WExt (B : Addr → Prop) (H : Hp) (T : Addr → Prop) (fps : Nat → List Addr) (H' : Hp) (T' : Addr → Prop) (fps' : Nat → List Addr) : Prop where
  t : ∀ a, T a → T' a
  keep : ∀ a o, H a = some o → (∀ i, a ∉ fps i) → H' a = some o
  tb : ∀ a o, TB T B a → H a = some o → H' a = some o
  frz : ∀ a o u, H a = some (.frz o u) → H' a = some (.frz o u)
  nT : ∀ a, T' a → T a ∨ (∃ i, a ∈ fps i) ∨ H a = none
  nF : ∀ a i, a ∈ fps' i → (∃ j, a ∈ fps j) ∨ H a = none
  dm : ∀ a, H a ≠ none → H' a ≠ none
section
variable {K : PySem.W.Frag} {B T T1 T2 : Addr → Prop} {H H1 H2 : Hp} {fps fps1 fps2 : Nat → List Addr}
theorem Ext.weak (x : Ext B H T fps H1 T1 fps1) : WExt B H T fps H1 T1 fps1 := ⟨x.t, x.keep, x.tb, x.frz, x.nT, fun a i h => (x.nF a i h).imp (fun z => ⟨i, z⟩) id, x.dm⟩
theorem WExt.refl : WExt B H T fps H T fps := Ext.refl.weak
theorem WExt.back (x : WExt B H T fps H1 T1 fps1) {p : Addr} (h : H1 p = none) : H p = none := by
  cases q : H p with
  | none => rfl
  | some o => exact absurd h (x.dm p (by rw [q]; simp))
theorem WExt.trans (a : WExt B H T fps H1 T1 fps1) (b : WExt B H1 T1 fps1 H2 T2 fps2) : WExt B H T fps H2 T2 fps2 where
  t := fun x h => b.t x (a.t x h)
  keep := fun x o h hn => b.keep x o (a.keep x o h hn) fun i q => by
    rcases a.nF x i q with ⟨j, z⟩ | z
    · exact hn j z
    · rw [h] at z; cases z
  tb := fun x o h q => b.tb x o (h.imp (a.t x) id) (a.tb x o h q)
  frz := fun x o u h => b.frz x o u (a.frz x o u h)
  nT := fun x h => by
    rcases b.nT x h with z | ⟨i, z⟩ | z
    · exact a.nT x z
    · exact .inr (a.nF x i z)
    · exact .inr (.inr (a.back z))
  nF := fun x i h => by
    rcases b.nF x i h with ⟨j, z⟩ | z
    · exact a.nF x j z
    · exact .inr (a.back z)
  dm := fun x h => b.dm x (a.dm x h)
theorem WExt.kept (x : WExt B H T fps H1 T1 fps1) : Kept H H1 T T1 := ⟨x.t, fun a o h q => x.tb a o (.inl h) q, x.frz⟩
theorem WExt.keptB (x : WExt B H T fps H1 T1 fps1) : Kept H H1 (TB T B) (TB T1 B) := ⟨fun a h => h.imp (x.t a) id, x.tb, x.frz⟩
theorem RR.keepW {v : V} {r : R} {fp : List Addr} (h : RR K H1 T1 B v r fp) (x : WExt B H1 T1 fps1 H2 T2 fps2) (hw : r.walks = true) (hn : ∀ a ∈ fp, ∀ i, a ∉ fps1 i) : RR K H2 T2 B v r fp := by
  cases r with
  | st d => exact ⟨h.1, h.2.keep x.kept⟩
  | bor d => exact ⟨h.1, h.2.keep x.keptB⟩
  | fr xs =>
    obtain ⟨a, vs, h0, h1, h2, h3⟩ := h
    exact ⟨a, vs, h0, h1, x.keep a _ h2 (hn a (by rw [h1]; exact List.mem_cons_self)), h3.keep x.kept⟩
  | own xs => cases hw
  | own2 xss => cases hw
end
/-- a yielded value: kept; or a pair, made for this turn -/
def Yd (K : PySem.W.Frag) (H : Hp) (T : Addr → Prop) (x : V) (d : D) (pr : Bool) : Prop :=
  if pr = true then ∃ p v1 v2 d1 d2, x = .ref p ∧ SqT K H p [v1, v2] ∧ d = .tuple [d1, d2] ∧ Rp K H T v1 d1 ∧ Rp K H T v2 d2 else Rp K H T x d
/-- an iterator yields these items, whatever else goes on -/
def Feeds (K : PySem.W.Frag) (J : L2.It) (ds : List D) (pr : Bool) (B : Addr → Prop) (H0 : Hp) (T0 : Addr → Prop) (fps0 : Nat → List Addr) : Prop :=
  ∀ (H : Hp) (T : Addr → Prop) (fps : Nat → List Addr), WExt B H0 T0 fps0 H T fps → ∀ i : Nat, (ds.length = i → J.stop i H) ∧
    ∀ d, ds[i]? = some d → J.go i H ∧ ∀ x H', J.yld i H x H' → (H' = H ∨ ∃ p o, H p = none ∧ H' = upd H p o) ∧ Yd K H' T x d pr
theorem Feeds.ext {K : PySem.W.Frag} {J : L2.It} {ds : List D} {pr : Bool} {B : Addr → Prop} {H0 H1 : Hp} {T0 T1 : Addr → Prop} {fps0 fps1 : Nat → List Addr} (h : Feeds K J ds pr B H0 T0 fps0) (x : Ext B H0 T0 fps0 H1 T1 fps1) : Feeds K J ds pr B H1 T1 fps1 :=
  fun H T fps y => h H T fps (x.weak.trans y)
theorem Fm.step {K : PySem.W.Frag} {B T : Addr → Prop} {H H' : Hp} {fps : Nat → List Addr} {σ : L2.St} {e : Env} (f : Fm K H T B fps σ e) (h : H' = H ∨ ∃ p o, H p = none ∧ H' = upd H p o) : Fm K H' T B fps σ e ∧ Ext B H T fps H' T fps := by
  rcases h with rfl | ⟨p, o, hn, rfl⟩
  · exact ⟨f, .refl⟩
  · exact ⟨f.new hn, .new hn⟩
def rdW (K : PySem.W.Frag) (XR : XRel) (W : WX) (pr : Bool) (o : Env → Out (List D)) : TI := fun σ H R => ∃ T B fps e, Fm K H T B fps σ e ∧
  OutOk (o e) (fun ds e1 => ∀ J H1 T1 fps1, Ext B H T fps H1 T1 fps1 → Fm K H1 T1 B fps1 σ e1 → Feeds K J ds pr B H1 T1 fps1 → R J H1) (eArm K XR W B H T fps σ)
def It.pr : It → Bool
  | .enum _ => true
  | .zip _ _ => true
  | _ => false
def isTup : Expr → Bool
  | .Tuple .. => true
  | _ => false
def EvIP (call : CallF) (XR : XRel) (n : Nat) (it : It) : Prop := ∀ (X : Cx) (W : WX), Gd X call XR W n → ∀ tg x : Expr, trI X.N it X.env.scope x = true → (it.pr = true → isTup tg = true) → PI X tg x (rdW X.K XR W it.pr (evI call it)) ∧ plainX x = true
theorem PI.imp {X : Cx} {tg x : Expr} {t t' : TI} (h : PI X tg x t) (hi : ∀ σ H Q, t' σ H Q → t σ H Q) : PI X tg x t' := ⟨fun pins s σ H Q I hw => h.run pins s σ H Q I (hi σ H Q hw)⟩
def iSeq (K : PySem.W.Frag) (te : TE) : TI := fun σ H R => te σ H fun x H1 => ∃ a, x = .ref a ∧ (((∃ xs, SqL K H1 a xs) ∧ R (Itl K a) H1) ∨ ((∃ xs, SqT K H1 a xs) ∧ R (Itt K a) H1))
theorem pi_seq {X : Cx} {tg l : Expr} {tl : TE} (hl : PE X l tl) : PI X tg l (iSeq X.K tl) := by
  refine ⟨fun pins s σ H R I h => ?_⟩
  refine thn (hl.run pins s σ H _ I h) fun v s1 ⟨x, H1, I1, r1, a, ex, q⟩ => ?_
  subst ex
  cases r1
  have fr : ∀ b ∈ [s1.heap.objs.size], FpOk X pins H1 b := fun b hb => by
    have e : b = s1.heap.objs.size := by simpa using hb
    subst e
    exact I1.fpOk (Nat.le_refl _) (I1.hok.fresh (Nat.le_refl _))
  rcases q with ⟨⟨xs, hq⟩, q⟩ | ⟨⟨xs, hq⟩, q⟩
  · obtain ⟨its, rv, p, hz⟩ := I1.list hq
    refine wpAny_pyIter_list p.isList ?_
    exact ⟨s1.heap.objs.size, [s1.heap.objs.size], _, _, H1, rfl, I1.kept (t' := s1.toks) fun b o e => Heap.get?_push_of_some _ e, turn_list a _, ⟨_, Heap.get?_push_size _ rfl, rfl, rfl⟩, fr, q⟩
  · obtain ⟨its, rv, p, hz⟩ := I1.tuple hq
    refine wpAny_pyIter_tuple (show s1.heap.IsTuple a its.toArray from p) ?_
    exact ⟨s1.heap.objs.size, [s1.heap.objs.size], _, _, H1, rfl, I1.kept (t' := s1.toks) fun b o e => Heap.get?_push_of_some _ e, turn_tuple a _, ⟨_, Heap.get?_push_size _ rfl, rfl, rfl⟩, fr, q⟩
section
variable {call : CallF} {XR : XRel} {n : Nat} {a b c : Ex} {es : Exs}
theorem walked_inv {r : R} {xs : List D} (h : walked r = some xs) : items r.d = some xs ∧ r.walks = true ∧ xs.all r.itemOk = true := by
  unfold walked at h
  obtain ⟨ys, hy, h⟩ := Option.bind_eq_some_iff.mp h
  obtain ⟨hk, rfl⟩ := some_if h
  rw [Bool.and_eq_true] at hk
  exact ⟨hy, hk.1, hk.2⟩
/-- a looked-at sequence, whatever goes on -/
theorem Ps.walk {K : PySem.W.Frag} {B T T1 : Addr → Prop} {H H1 : Hp} {fps fps1 : Nat → List Addr} {σ : L2.St} {r : R} {e1 : Env} {v : V} {fp : List Addr} {xs : List D} (p : Ps K B H T fps σ r e1 v H1 T1 fps1 fp) (hw : walked r = some xs) :
    ∃ a, v = .ref a ∧ (((∃ ys, r.d = .list ys) ∧ ∀ H2 T2 fps2, WExt B H1 T1 fps1 H2 T2 fps2 → ∃ vs, SqL K H2 a vs ∧ RpAll K H2 T2 vs xs) ∨ ((∃ ys, r.d = .tuple ys) ∧ ∀ H2 T2 fps2, WExt B H1 T1 fps1 H2 T2 fps2 → ∃ vs, SqT K H2 a vs ∧ RpAll K H2 T2 vs xs)) := by
  obtain ⟨hi, hw, ha⟩ := walked_inv hw
  obtain ⟨a, vs0, rfl, k0, _⟩ := p.rr.kept hi
  have all : ∀ H2 T2 fps2, WExt B H1 T1 fps1 H2 T2 fps2 → ∃ vs, Kd K H2 r.d a vs ∧ RpAll K H2 T2 vs xs := fun H2 T2 fps2 x => by
    have rr := p.rr.keepW x hw fun b hb => (p.nw b hb).2.2.1
    obtain ⟨a', vs, e', k, h⟩ := rr.kept hi
    cases e'
    exact ⟨vs, k, h (fun l => l) (fun _ _ h => h) ha⟩
  rcases k0 with ⟨hd, _⟩ | ⟨hd, _⟩
  · refine ⟨a, rfl, .inl ⟨hd, fun H2 T2 fps2 x => ?_⟩⟩
    obtain ⟨vs, k, h⟩ := all H2 T2 fps2 x
    obtain ⟨ys, hd⟩ := hd
    exact ⟨vs, k.lst hd, h⟩
  · refine ⟨a, rfl, .inr ⟨hd, fun H2 T2 fps2 x => ?_⟩⟩
    obtain ⟨vs, k, h⟩ := all H2 T2 fps2 x
    obtain ⟨ys, hd⟩ := hd
    exact ⟨vs, (k.tup hd).sq, h⟩
theorem RqAll.le {K : PySem.W.Frag} {H : Hp} {T : Addr → Prop} {kl : Prop} {vs : List V} {xs : List D} {i : Nat} (h : RqAll K H T kl vs xs) (e : xs.length ≤ i) : vs.length ≤ i := by rw [h.length]; exact e
theorem feeds_list {K : PySem.W.Frag} {B T1 : Addr → Prop} {H1 : Hp} {fps1 : Nat → List Addr} {a : Addr} {xs : List D} (h : ∀ H2 T2 fps2, WExt B H1 T1 fps1 H2 T2 fps2 → ∃ vs, SqL K H2 a vs ∧ RpAll K H2 T2 vs xs) : Feeds K (Itl K a) xs false B H1 T1 fps1 := fun H T fps x i => by
  obtain ⟨vs, hq, ha⟩ := h H T fps x
  refine ⟨fun hl => ⟨vs, hq, ha.le (Nat.le_of_eq hl)⟩, fun d hd => ?_⟩
  obtain ⟨w, hw, rw'⟩ := ha.get hd
  refine ⟨⟨vs, w, hq, hw⟩, fun y H' hy => ?_⟩
  obtain ⟨rfl, hy⟩ := hy
  have := hy vs hq
  rw [hw] at this
  cases this
  exact ⟨.inl rfl, rw'⟩
theorem feeds_tup {K : PySem.W.Frag} {B T1 : Addr → Prop} {H1 : Hp} {fps1 : Nat → List Addr} {a : Addr} {xs : List D} (h : ∀ H2 T2 fps2, WExt B H1 T1 fps1 H2 T2 fps2 → ∃ vs, SqT K H2 a vs ∧ RpAll K H2 T2 vs xs) : Feeds K (Itt K a) xs false B H1 T1 fps1 := fun H T fps x i => by
  obtain ⟨vs, hq, ha⟩ := h H T fps x
  refine ⟨fun hl => ⟨vs, hq, ha.le (Nat.le_of_eq hl)⟩, fun d hd => ?_⟩
  obtain ⟨w, hw, rw'⟩ := ha.get hd
  refine ⟨⟨vs, w, hq, hw⟩, fun y H' hy => ?_⟩
  obtain ⟨rfl, hy⟩ := hy
  have := hy vs hq
  rw [hw] at this
  cases this
  exact ⟨.inl rfl, rw'⟩
theorem evi_ex (ha : EvP call XR n a) : EvIP call XR n (.ex a) := fun X W G tg x ht _ => by
  have ht : tr X.N a X.env.scope x = true := ht
  refine ⟨PI.imp (pi_seq (ha.pe G ht)) fun σ H R ⟨T, B, fps, e, f, q⟩ => ?_, tr_plainX ht⟩
  refine ⟨T, B, fps, e, f, (OutOk.bind q).mono (fun ra e1 q v H1 T1 fps1 fp p => ?_) fun _ _ q => q⟩
  obtain ⟨xs, hx, q⟩ := q.of_lift
  obtain ⟨a, rfl, h | h⟩ := p.walk hx
  · obtain ⟨vs, h1, _⟩ := h.2 H1 T1 fps1 .refl
    exact ⟨a, rfl, .inl ⟨⟨vs, h1⟩, q _ H1 T1 fps1 p.ext p.fm (feeds_list h.2)⟩⟩
  · obtain ⟨vs, h1, _⟩ := h.2 H1 T1 fps1 .refl
    exact ⟨a, rfl, .inr ⟨⟨vs, h1⟩, q _ H1 T1 fps1 p.ext p.fm (feeds_tup h.2)⟩⟩
theorem rangeL_get {lo step : Int} {n i : Nat} : (rangeL lo n step)[i]? = if i < n then some (.int (lo + i * step)) else none := by
  unfold rangeL
  rw [List.getElem?_map]
  by_cases h : i < n
  · rw [List.getElem?_range h, if_pos h]; rfl
  · rw [List.getElem?_eq_none (by simpa using h), if_neg h]; rfl
theorem rangeL_length {lo step : Int} {n : Nat} : (rangeL lo n step).length = n := by unfold rangeL; simp
theorem feeds_range {K : PySem.W.Frag} {B T1 : Addr → Prop} {H1 : Hp} {fps1 : Nat → List Addr} {lo : Int} {n : Nat} : Feeds K (Itr lo n) (rangeL lo n 1) false B H1 T1 fps1 := fun H T fps x i => by
  refine ⟨fun hl => by rw [rangeL_length] at hl; exact Nat.le_of_eq hl, fun d hd => ?_⟩
  rw [rangeL_get] at hd
  split at hd
  · rename_i hi
    cases hd
    refine ⟨hi, fun y H' hy => ?_⟩
    obtain ⟨rfl, rfl⟩ := hy
    refine ⟨.inl rfl, ?_⟩
    rw [Int.mul_one]
    exact Rq.int _
  · cases hd
theorem feeds_rangeC {K : PySem.W.Frag} {B T1 : Addr → Prop} {H1 : Hp} {fps1 : Nat → List Addr} {lo c : Int} {n : Nat} : Feeds K (Itc lo c n) (rangeL lo n c) false B H1 T1 fps1 := fun H T fps x i => by
  refine ⟨fun hl => by rw [rangeL_length] at hl; exact Nat.le_of_eq hl, fun d hd => ?_⟩
  rw [rangeL_get] at hd
  split at hd
  · rename_i hi
    cases hd
    refine ⟨hi, fun y H' hy => ?_⟩
    obtain ⟨rfl, rfl⟩ := hy
    exact ⟨.inl rfl, Rq.int _⟩
  · cases hd
theorem smallI_of {i : Int} (h : smallI i = true) : -(2 ^ 62) ≤ i ∧ i < 2 ^ 62 := by
  have : -(2 ^ 61) ≤ i ∧ i < 2 ^ 61 := (smallI_iff i).mp h
  omega
/-- the reading of ints, one after another -/
theorem evi_range (ha : EvP call XR n a) : EvIP call XR n (.range a) := fun X W G tg x ht _ => by
  unfold trI at ht
  split at ht
  · rw [Bool.and_eq_true] at ht
    obtain ⟨hg, h1⟩ := ht
    obtain ⟨rfl, g1, g2⟩ := gl_blt G hg (mem_blt (by decide))
    have p1 := tr_plainX h1
    refine ⟨PI.imp (pi_range1 g1 g2 (pa_cons (ha.pi G h1) pa_nil (plainX_star p1 _ _)) (plainX_star p1 _ _)) fun σ H R ⟨T, B, fps, e, f, q⟩ => ?_, rfl⟩
    refine ⟨T, B, fps, e, f, (OutOk.bind q).mono (fun j e1 q H1 T1 fps1 x1 f1 => ?_) fun _ _ q => q⟩
    obtain ⟨hs, q⟩ := OutOk.of_if q
    have hs := smallI_of hs
    refine ⟨j, rfl, hs.1, hs.2, q _ H1 T1 fps1 x1 f1 ?_⟩
    have := feeds_range (K := X.K) (B := B) (T1 := T1) (H1 := H1) (fps1 := fps1) (lo := 0) (n := j.toNat)
    rw [show j.toNat = rangeN 0 j by unfold rangeN; rw [Int.sub_zero]] at this ⊢
    exact this
  · cases ht
theorem evi_range2 (ha : EvP call XR n a) (hb : EvP call XR n b) : EvIP call XR n (.range2 a b) := fun X W G tg x ht _ => by
  unfold trI at ht
  split at ht
  · simp only [Bool.and_eq_true] at ht
    obtain ⟨⟨hg, h1⟩, h2⟩ := ht
    obtain ⟨rfl, g1, g2⟩ := gl_blt G hg (mem_blt (by decide))
    have p1 := tr_plainX h1
    have p2 := tr_plainX h2
    refine ⟨PI.imp (pi_range2 g1 g2 (pa_cons (ha.pi G h1) (pa_cons (hb.pi G h2) pa_nil (plainX_star p2 _ _)) (plainX_star p1 _ _)) (by rw [plainX_star p1, plainX_star p2]; rfl) (plainX_star p2 _ _)) fun σ H R ⟨T, B, fps, e, f, q⟩ => ?_, rfl⟩
    refine ⟨T, B, fps, e, f, (OutOk.bind q).mono (fun i e1 q H1 T1 fps1 x1 f1 => ?_) fun _ _ q => q⟩
    refine ⟨T1, B, fps1, e1, f1, (OutOk.bind q).mono (fun j e2 q H2 T2 fps2 x2 f2 => ?_) fun _ _ q => q.trans x1⟩
    obtain ⟨hs, q⟩ := OutOk.of_ifP q
    have h1 := smallI_of hs.1
    have h2 := smallI_of hs.2
    exact ⟨i, j, rfl, ⟨h1.1, h1.2, h2.1, h2.2⟩, q _ H2 T2 fps2 (x1.trans x2) f2 feeds_range⟩
  · cases ht
theorem evi_range3 (ha : EvP call XR n a) (hb : EvP call XR n b) (hc : EvP call XR n c) : EvIP call XR n (.range3 a b c) := fun X W G tg x ht _ => by
  unfold trI at ht
  split at ht
  · simp only [Bool.and_eq_true] at ht
    obtain ⟨⟨⟨hg, h1⟩, h2⟩, h3⟩ := ht
    obtain ⟨rfl, g1, g2⟩ := gl_blt G hg (mem_blt (by decide))
    have p1 := tr_plainX h1
    have p2 := tr_plainX h2
    have p3 := tr_plainX h3
    refine ⟨PI.imp (pi_range3 g1 g2 (pa_cons (ha.pi G h1) (pa_cons (hb.pi G h2) (pa_cons (hc.pi G h3) pa_nil (plainX_star p3 _ _)) (plainX_star p2 _ _)) (plainX_star p1 _ _)) (plainX_star p1 _ _) (by rw [plainX_star p2, plainX_star p3]; rfl)) fun σ H R ⟨T, B, fps, e, f, q⟩ => ?_, rfl⟩
    refine ⟨T, B, fps, e, f, (OutOk.bind q).mono (fun i e1 q H1 T1 fps1 x1 f1 => ?_) fun _ _ q => q⟩
    refine ⟨T1, B, fps1, e1, f1, (OutOk.bind q).mono (fun j e2 q H2 T2 fps2 x2 f2 => ?_) fun _ _ q => q.trans x1⟩
    refine ⟨T2, B, fps2, e2, f2, (OutOk.bind q).mono (fun k e3 q H3 T3 fps3 x3 f3 => ?_) fun _ _ q => q.trans (x1.trans x2)⟩
    obtain ⟨⟨hk, h1, h2⟩, q'⟩ := OutOk.of_ifP q
    subst hk
    have h1 := smallI_of h1
    have h2 := smallI_of h2
    exact ⟨i, j, -1, _, rfl, RgC.neg h1.1 h1.2 h2.1 h2.2, q' _ H3 T3 fps3 ((x1.trans x2).trans x3) f3 feeds_rangeC⟩
  · cases ht
/-! ### list(range(..)), tuple(range(..)) -/
end
end MP
end

section
set_option autoImplicit false
set_option linter.all false
set_option maxRecDepth 100000
/-! Soundness of expressions, 12: list comprehensions. -/
namespace MP
open PySem PySem.Spec PyProof.Rows L2

section
variable {K : PySem.W.Frag} {B T T1 T2 : Addr → Prop} {H H1 H2 : Hp} {fps fps1 fps2 : Nat → List Addr} {σ : L2.St} {e e1 e2 : Env} {vs : List Nat}
theorem slot_ge {e : Env} {i : Nat} (h : e.length ≤ i) : slot e i = .u := slot_out (by omega)
theorem slot_set' {e : Env} {i j : Nat} {s : MP.Slot} : slot (e.set i s) j = if j = i ∧ i < e.length then s else slot e j := by
  by_cases hi : i < e.length
  · rw [slot_set hi]; simp [hi]
  · rw [set_out hi]; simp [hi]
theorem wipe_len {e : Env} : ∀ {vs : List Nat}, (wipe e vs).length = e.length
  | [] => rfl
  | v :: vs => by unfold wipe; rw [List.length_set, wipe_len]
theorem slot_wipe {e : Env} {j : Nat} : ∀ {vs : List Nat}, slot (wipe e vs) j = if j ∈ vs then .u else slot e j
  | [] => by simp [wipe]
  | v :: vs => by
    unfold wipe
    rw [slot_set', slot_wipe, wipe_len]
    by_cases h1 : j = v
    · subst h1
      by_cases h2 : j < e.length
      · simp [h2]
      · simp [h2, slot_out h2]
    · simp [h1]
theorem restore_len {e e0 : Env} : ∀ {vs : List Nat}, (restore e0 e vs).length = e.length
  | [] => rfl
  | v :: vs => by unfold restore; rw [List.length_set, restore_len]
theorem slot_restore {e e0 : Env} (hl : e0.length = e.length) {j : Nat} : ∀ {vs : List Nat}, slot (restore e0 e vs) j = if j ∈ vs then slot e0 j else slot e j
  | [] => by simp [restore]
  | v :: vs => by
    unfold restore
    rw [slot_set', slot_restore hl, restore_len]
    by_cases h1 : j = v
    · subst h1
      by_cases h2 : j < e.length
      · simp [h2]
      · simp [h2, slot_out h2, slot_out (e := e0) (by rw [hl]; exact h2)]
    · simp [h1]
theorem wipeS_get {j : Nat} : ∀ {vs : List Nat}, j ∉ vs → (L2.wipe σ vs)[j]? = σ[j]?
  | [], _ => rfl
  | v :: vs, h => by
    unfold L2.wipe
    rw [List.getElem?_set_ne (fun z => h (by rw [z]; exact List.mem_cons_self)), wipeS_get fun z => h (List.mem_cons_of_mem _ z)]
theorem wipeS_set {z : Option V} {i : Nat} : ∀ {vs : List Nat}, L2.wipe (σ.set i z) vs = if i ∈ vs then L2.wipe σ vs else (L2.wipe σ vs).set i z
  | [] => by simp [L2.wipe]
  | v :: vs => by
    unfold L2.wipe
    rw [wipeS_set]
    by_cases h1 : i ∈ vs
    · simp [h1]
    · by_cases h2 : i = v
      · subst h2; simp [h1]
      · simp only [h1, if_false, List.mem_cons, h2, or_self]
        exact List.set_comm _ _ h2
theorem wipeS_idem : ∀ {vs ws : List Nat}, (∀ i ∈ vs, i ∈ ws) → L2.wipe (L2.wipe σ vs) ws = L2.wipe σ ws
  | [], _, _ => rfl
  | v :: vs, ws, h => by
    rw [show L2.wipe σ (v :: vs) = (L2.wipe σ vs).set v none from rfl, wipeS_set, if_pos (h v List.mem_cons_self)]
    exact wipeS_idem fun i hi => h i (List.mem_cons_of_mem _ hi)
def fpW (fps : Nat → List Addr) (vs : List Nat) : Nat → List Addr := fun j => if j ∈ vs then [] else fps j
theorem fpW_mem {j : Nat} {a : Addr} (h : a ∈ fpW fps vs j) : j ∉ vs ∧ a ∈ fps j := by
  unfold fpW at h
  split at h
  · cases h
  · exact ⟨‹_›, h⟩
theorem Fm.wipe (f : Fm K H T B fps σ e) (vs : List Nat) : Fm K H T B (fpW fps vs) (L2.wipe σ vs) (MP.wipe e vs) ∧ Ext B H T fps H T (fpW fps vs) := by
  refine ⟨⟨by rw [wipe_length, wipe_len, f.len], fun j => ?_, fun j => ?_, fun i j a h1 h2 => f.dj i j a (fpW_mem h1).2 (fpW_mem h2).2, fun i a h => f.dT i a (fpW_mem h).2, fun i a h => f.dB i a (fpW_mem h).2, f.td, f.bd⟩,
    ⟨fun _ h => h, fun _ _ h _ => h, fun _ _ _ h => h, fun _ _ _ h => h, fun _ h => .inl h, fun a i h => .inl (fpW_mem h).2, fun _ h => h⟩⟩
  · rw [slot_wipe]
    by_cases hj : j ∈ vs
    · rw [if_pos hj]; unfold fpW; rw [if_pos hj]; rfl
    · rw [if_neg hj, wipeS_get hj]; unfold fpW; rw [if_neg hj]; exact f.sl j
  · unfold fpW
    split
    · exact List.nodup_nil
    · exact f.nd j
/-- the block's own slots are the outer ones' again -/
theorem Fm.restore (f1 : Fm K H1 T1 B fps1 σ e1) (x2 : Ext B H1 T1 (fpW fps1 vs) H2 T2 fps2) (f2 : Fm K H2 T2 B fps2 (L2.wipe σ vs) (MP.wipe e2 vs)) :
    ∃ fps3, Fm K H2 T2 B fps3 σ (MP.restore e1 e2 vs) ∧ Ext B H1 T1 fps1 H2 T2 fps3 ∧ ∀ a, (∀ j, a ∉ fps1 j) → (∀ j, a ∉ fps2 j) → ∀ j, a ∉ fps3 j := by
  have hl : e1.length = e2.length := by rw [← f1.len, ← wipe_length σ vs, f2.len, wipe_len]
  have out : ∀ {i a}, i ∈ vs → a ∈ fps1 i → ∀ j, a ∉ fpW fps1 vs j := fun {i a} hi ha j z => by
    have := f1.dj j i a (fpW_mem z).2 ha
    subst this
    exact (fpW_mem z).1 hi
  have som : ∀ {i a}, a ∈ fps1 i → H1 a ≠ none := fun ha z => f1.notNone z ha
  have nT2 : ∀ {i a}, i ∈ vs → a ∈ fps1 i → ¬ T2 a := fun {i a} hi ha z => by
    rcases x2.nT a z with q | ⟨j, q⟩ | q
    · exact f1.dT i a ha q
    · exact out hi ha j q
    · exact som ha q
  have nF2 : ∀ {i a}, i ∈ vs → a ∈ fps1 i → ∀ j, a ∉ fps2 j := fun {i a} hi ha j z => by
    rcases x2.nF a j z with q | q
    · exact out hi ha j q
    · exact som ha q
  refine ⟨fun j => if j ∈ vs then fps1 j else fps2 j, ⟨by rw [restore_len, f1.len, hl], fun j => ?_, fun j => ?_, fun i j a h1 h2 => ?_, fun i a h => ?_, fun i a h => ?_, f2.td, f2.bd⟩,
    ⟨x2.t, fun a o h hn => x2.keep a o h fun j z => hn j (fpW_mem z).2, x2.tb, x2.frz, fun a h => (x2.nT a h).imp id (Or.imp (fun ⟨j, z⟩ => ⟨j, (fpW_mem z).2⟩) id), fun a j h => ?_, x2.dm⟩, fun a h1 h2 j => ?_⟩
  · rw [slot_restore hl]
    by_cases hj : j ∈ vs
    · rw [if_pos hj, if_pos hj]
      exact (f1.sl j).keep x2.kept x2.keptB fun a ha o h => x2.keep a o h (out hj ha)
    · rw [if_neg hj, if_neg hj]
      have := f2.sl j
      rw [slot_wipe, if_neg hj, wipeS_get hj] at this
      exact this
  · by_cases hj : j ∈ vs
    · simp only [hj, if_true]; exact f1.nd j
    · simp only [hj, if_false]; exact f2.nd j
  · by_cases hi : i ∈ vs <;> by_cases hj : j ∈ vs <;> simp only [hi, hj, if_true, if_false] at h1 h2
    · exact f1.dj i j a h1 h2
    · exact absurd h2 (nF2 hi h1 j)
    · exact absurd h1 (nF2 hj h2 i)
    · exact f2.dj i j a h1 h2
  · by_cases hi : i ∈ vs <;> simp only [hi, if_true, if_false] at h
    · exact nT2 hi h
    · exact f2.dT i a h
  · by_cases hi : i ∈ vs <;> simp only [hi, if_true, if_false] at h
    · exact f1.dB i a h
    · exact f2.dB i a h
  · by_cases hj : j ∈ vs <;> simp only [hj, if_true, if_false] at h
    · exact .inl h
    · exact (x2.nF a j h).imp (fun z => (fpW_mem z).2) id
  · by_cases hj : j ∈ vs <;> simp only [hj, if_true, if_false]
    · exact h1 j
    · exact h2 j
/-- one slot holds a value now -/
theorem Fm.put (f : Fm K H T B fps σ e) {i : Nat} {x : V} {d : D} (r : Rp K H T x d) : ∃ fps', Fm K H T B fps' (σ.set i (some x)) (e.set i (.v d)) ∧ Ext B H T fps H T fps' ∧ ∀ j a, a ∈ fps' j → a ∈ fps j := by
  by_cases hi : i < e.length
  · refine ⟨fpSet fps i [], f.set hi (by simp) (fun j hj => by rw [List.getElem?_set_ne (Ne.symm hj)]) ⟨rfl, x, ?_, r⟩ List.nodup_nil (fun _ z => nomatch z) (fun _ z => nomatch z) (fun _ z => nomatch z), Ext.own (fun _ z => nomatch z), fun j a h => (fpSet_nil_mem h).2⟩
    rw [List.getElem?_set_self (by rw [f.len]; exact hi)]
  · rw [set_out hi, set_out (by rw [f.len]; exact hi)]
    exact ⟨fps, f, .refl, fun _ _ h => h⟩
/-! ### targets -/
def gNames : List Nat → TGs
  | [] => gNil
  | i :: is => gCons (gName i) (gNames is)
def gTg (K : PySem.W.Frag) : Tg → TG
  | .var i => gName i
  | .tup is => gTup K is.length (gNames is)
theorem gNames_ok {Q : L2.St → Hp → Prop} {vs : List V} : ∀ {is : List Nat} {ds : List D} {vs : List V} {σ : L2.St} {e e2 : Env} {fps : Nat → List Addr}, setAll e is ds = some e2 → RpAll K H T vs ds → Fm K H T B fps σ e →
    (∀ σ2 fps2, Fm K H T B fps2 σ2 e2 → Ext B H T fps H T fps2 → (∀ ws : List Nat, (∀ i ∈ is, i ∈ ws) → L2.wipe σ2 ws = L2.wipe σ ws) → (∀ j, j ∉ is → σ2[j]? = σ[j]?) → σ2.length = σ.length → Q σ2 H) → gNames is vs σ H Q
  | [], [], _, σ, e, _, _, h, .nil, f, k => by cases h; exact ⟨rfl, k σ _ f .refl (fun _ _ => rfl) (fun _ _ => rfl) rfl⟩
  | [], _ :: _, _, _, _, _, _, h, _, _, _ => by cases h
  | _ :: _, [], _, _, _, _, _, h, _, _, _ => by cases h
  | i :: is, d :: ds, _, σ, e, e2, fps, h, .cons (v := v) r rs, f, k => by
    refine ⟨v, _, rfl, ?_⟩
    obtain ⟨fps1, f1, x1, _⟩ := f.put (i := i) r
    refine gNames_ok (vs := []) (is := is) h rs f1 fun σ2 fps2 f2 x2 w2 j2 l2 => k σ2 fps2 f2 (x1.trans x2) (fun ws hw => ?_) (fun j hj => ?_) (by rw [l2]; simp)
    · rw [w2 ws fun i hi => hw i (List.mem_cons_of_mem _ hi), wipeS_set, if_pos (hw i List.mem_cons_self)]
    · rw [j2 j fun z => hj (List.mem_cons_of_mem _ z), List.getElem?_set_ne (fun z => hj (by rw [z]; exact List.mem_cons_self))]
theorem gTg_ok {t : Tg} {d : D} {x : V} {pr : Bool} {Q : L2.St → Hp → Prop} (hb : t.bind d e = some e2) (hy : Yd K H T x d pr) (hp : pr = true → ∃ i j, t = .tup [i, j]) (f : Fm K H T B fps σ e)
    (k : ∀ σ2 fps2, Fm K H T B fps2 σ2 e2 → Ext B H T fps H T fps2 → (∀ ws : List Nat, (∀ i ∈ t.vars, i ∈ ws) → L2.wipe σ2 ws = L2.wipe σ ws) → (∀ j, j ∉ t.vars → σ2[j]? = σ[j]?) → σ2.length = σ.length → Q σ2 H) : gTg K t x σ H Q := by
  cases t with
  | var i =>
    cases hb
    cases pr with
    | true => obtain ⟨_, _, z⟩ := hp rfl; cases z
    | false =>
      have r : Rp K H T x d := hy
      obtain ⟨fps1, f1, x1, _⟩ := f.put (i := i) r
      exact k _ fps1 f1 x1 (fun ws hw => by rw [wipeS_set, if_pos (hw i (by simp [Tg.vars]))]) (fun j hj => by rw [List.getElem?_set_ne (fun z => hj (by simp [Tg.vars, z]))]) (by simp)
  | tup is =>
    have key : ∃ p vs ds, x = .ref p ∧ SqT K H p vs ∧ d = .tuple ds ∧ RpAll K H T vs ds := by
      cases pr with
      | true =>
        obtain ⟨p, v1, v2, d1, d2, rfl, hs, rfl, r1, r2⟩ := hy
        exact ⟨p, _, _, rfl, hs, rfl, .cons r1 (.cons r2 .nil)⟩
      | false =>
        have r : Rp K H T x d := hy
        cases d with
        | tuple ds =>
          obtain ⟨p, vs, rfl, h1, h2⟩ := r.tuple
          exact ⟨p, vs, ds, rfl, h1.sq, rfl, h2⟩
        | _ => cases hb
    obtain ⟨p, vs, ds, rfl, hs, rfl, r⟩ := key
    have hb : setAll e is ds = some e2 := hb
    have hl : ∀ {is : List Nat} {ds : List D} {e : Env}, setAll e is ds = some e2 → is.length = ds.length := by
      intro is
      induction is with
      | nil => intro ds e h; cases ds with | nil => rfl | cons _ _ => cases h
      | cons i is ih => intro ds e h; cases ds with | nil => cases h | cons d ds => rw [List.length_cons, List.length_cons, ih h]
    exact ⟨p, vs, rfl, hs, by rw [r.length, hl hb], gNames_ok (vs := []) hb r f k⟩
/-- a name that may be stored -/
def Sto (X : Cx) (x : Str) : Prop := Loc X.env.scope x ∧ (X.fn x = true ∨ X.env.scope.names.lookup x = some .local)
theorem sto_of {sc : Scope} {x : Str} (h : isSto sc x = true) : sc.names.lookup x = some .local ∨ sc.names.lookup x = some .cell := by
  unfold isSto at h
  split at h <;> first | exact .inl ‹_› | exact .inr ‹_› | (cases h; done)
theorem relS_lookup {scope sc : Scope} {x : Str} {k : NameKind} (h : scope.names.lookup x = some k) (hk : k ≠ .free) : (relS scope sc).names.lookup x = some k := by
  unfold relS
  show (scope.names.map _).lookup x = some k
  revert h
  generalize scope.names = l
  intro h
  induction l with
  | nil => cases h
  | cons p l ih =>
    obtain ⟨y, k'⟩ := p
    rw [List.map_cons]
    cases hx : x == y with
    | true =>
      rw [List.lookup_cons, hx] at h
      cases h
      have hf : (k == NameKind.free) = false := by cases k <;> first | rfl | exact absurd rfl hk
      simp only [hf, Bool.false_and, Bool.false_eq_true, if_false, List.lookup_cons, hx]
    | false =>
      rw [List.lookup_cons, hx] at h
      have := ih h
      show List.lookup x ((if (k' == NameKind.free && sc.kind == .function && sc.names.lookup y == some .cell) = true then (y, NameKind.cell) else (y, k')) :: List.map _ l) = some k
      by_cases hc : (k' == NameKind.free && sc.kind == .function && sc.names.lookup y == some .cell) = true
      · rw [if_pos hc]; simp only [List.lookup_cons, hx]; exact this
      · rw [if_neg hc]; simp only [List.lookup_cons, hx]; exact this
theorem pgs_of {X : Cx} {ok : Str → Bool} (hok : ∀ x, ok x = true → Sto X x) : ∀ {is : List Nat} {xs : List Expr}, X.N.Nodup → tgOk X.N ok is xs = true → PGs X xs (gNames is) ∧ (assignEach xs X.env).length = is.length ∧ (assignEach xs X.env).findIdx? (·.1) = none
  | [], [], _, _ => ⟨pgs_nil, rfl, rfl⟩
  | [], _ :: _, _, h => by simp [tgOk] at h
  | _ :: _, [], _, h => by simp [tgOk] at h
  | i :: is, x :: xs, hN, h => by
    cases x <;> first | (simp [tgOk] at h; done) | skip
    rename_i y p
    simp only [tgOk, Bool.and_eq_true, decide_eq_true_eq] at h
    obtain ⟨⟨h1, h2⟩, h3⟩ := h
    obtain ⟨g1, g2, g3⟩ := pgs_of hok hN h3
    have hl := hok _ h2
    refine ⟨pgs_cons (pg_name hN h1 hl.1 hl.2) g1 rfl, ?_, ?_⟩
    · show (assignEach xs X.env).length + 1 = _
      rw [g2]; rfl
    · show (List.findIdx? (·.1) ((false, _) :: assignEach xs X.env)) = none
      rw [List.findIdx?_cons, g3]; rfl
theorem pg_of {X : Cx} {ok : Str → Bool} (hok : ∀ x, ok x = true → Sto X x) {t : Tg} {w : Expr} (hc : X.calm = true) (hN : X.N.Nodup) (h : trTg X.N ok t w = true) : PG X w (gTg X.K t) := by
  cases t with
  | var i =>
    cases w <;> first | (simp [trTg] at h; done) | skip
    simp only [trTg, Bool.and_eq_true, decide_eq_true_eq] at h
    have hl := hok _ h.2
    exact pg_name hN h.1 hl.1 hl.2
  | tup is =>
    cases w <;> first | (simp [trTg] at h; done) | skip
    obtain ⟨g1, g2, g3⟩ := pgs_of hok hN (show tgOk X.N ok is _ = true from h)
    exact pg_tup hc g1 g2 g3
end
end MP
end

section
set_option autoImplicit false
set_option linter.all false
set_option maxRecDepth 100000
/-! Soundness of expressions, 13: list comprehensions. -/
namespace MP
open PySem PySem.Spec PyProof.Rows L2

theorem plainX_fold {x : Expr} (h : plainX x = true) (env : PySem.Env) : ∀ v, foldedSetIterable x env v = pure v := by
  cases x <;> first | (cases h; done) | (intro _; rfl)
section
variable {call : CallF} {XR : XRel} {n : Nat} {a b c : Ex} {es : Exs}
/-- a comprehension's block -/
theorem Gd.blk {X : Cx} {W : WX} (G : Gd X call XR W n) (s : Shared) (H : Hp) (scope : Scope) (cenv : PySem.Env) (fp : List Addr) : Gd (X.blk s H scope cenv fp) call XR (fun _ _ _ _ => False) n :=
  ⟨G.nd, G.calm, G.blt, G.room, fun u s' h => by obtain ⟨_, _, _, _, _, _, _, _, _, _, _, _, _, _, _, _, w⟩ := h; exact w.elim, G.con, G.xs, G.calls⟩
/-- what a comprehension walks -/
def rdC (K : PySem.W.Frag) (XR : XRel) (W : WX) (call : CallF) (it : It) : TI := fun σ H R => ∃ T B fps e, Fm K H T B fps σ e ∧ match lentAt it e with
  | some (i, xs) => ∀ J, Feeds K J xs false B H T (fpSet fps i []) → R J H
  | none => OutOk (evI call it e) (fun ds e1 => ∀ J H1 T1 fps1, Ext B H T fps H1 T1 fps1 → Fm K H1 T1 B fps1 σ e1 → Feeds K J ds it.pr B H1 T1 fps1 → R J H1) (eArm K XR W B H T fps σ)
theorem lentAt_pk {it : It} (h : ∀ i, it ≠ .ex (.pk i)) (e : Env) : lentAt it e = none := by
  unfold lentAt
  split
  · exact absurd rfl (h _)
  · rfl
theorem evi_comp {it : It} (hi : EvIP call XR n it) {X : Cx} {W : WX} (G : Gd X call XR W n) {tg x : Expr} (ht : trI X.N it X.env.scope x = true) (hp : it.pr = true → isTup tg = true) : PI X tg x (rdC X.K XR W call it) ∧ plainX x = true := by
  obtain ⟨h1, h2⟩ := hi X W G tg x ht hp
  refine ⟨?_, h2⟩
  by_cases hk : ∃ i, it = .ex (.pk i)
  · obtain ⟨i, rfl⟩ := hk
    have ht : tr X.N (.pk i) X.env.scope x = true := ht
    unfold tr at ht
    split at ht
    · refine PI.imp (pi_seq (pe_name ht)) fun σ H R ⟨T, B, fps, e, f, q⟩ => ?_
      cases hl : lentAt (.ex (.pk i)) e with
      | some p =>
        rw [hl] at q
        have hs : ∃ xs, slot e i = .ol xs ∧ p = (i, xs) := by
          unfold lentAt at hl
          split at hl
          · rename_i h1 h2
            cases h1
            cases hl
            exact ⟨_, h2, rfl⟩
          · cases hl
        obtain ⟨xs, hs, rfl⟩ := hs
        obtain ⟨a, vs, hv, hf, hH, ra, hi⟩ := f.ol hs
        have hout : ∀ j, a ∉ fpSet fps i [] j := fun j z => (fpSet_nil_mem z).1 (f.dj j i a (fpSet_nil_mem z).2 (by rw [hf]; exact List.mem_cons_self))
        exact ⟨.ref a, hv, a, rfl, .inl ⟨⟨vs, .inl (.inl hH)⟩, q _ (feeds_list fun H2 T2 fps2 x => ⟨vs, .inl (.inl (x.keep a _ hH hout)), ra.keep x.kept⟩)⟩⟩
      | none =>
        rw [hl] at q
        obtain ⟨ra, hra, q⟩ := (OutOk.bind q).of_lift
        obtain ⟨xs, hx, q⟩ := q.of_lift
        obtain ⟨v, hv, rr⟩ := f.look hra
        have p : Ps X.K B H T fps σ ra e v H T fps [] := ⟨.refl, f, rr, List.nodup_nil, fun _ z => nomatch z⟩
        obtain ⟨a, rfl, h | h⟩ := p.walk hx
        · obtain ⟨vs, h1, _⟩ := h.2 H T fps .refl
          exact ⟨_, hv, a, rfl, .inl ⟨⟨vs, h1⟩, q _ H T fps .refl f (feeds_list h.2)⟩⟩
        · obtain ⟨vs, h1, _⟩ := h.2 H T fps .refl
          exact ⟨_, hv, a, rfl, .inr ⟨⟨vs, h1⟩, q _ H T fps .refl f (feeds_tup h.2)⟩⟩
    · cases ht
  · refine PI.imp h1 fun σ H R ⟨T, B, fps, e, f, q⟩ => ⟨T, B, fps, e, f, ?_⟩
    rw [lentAt_pk (fun i z => hk ⟨i, z⟩)] at q
    exact q
/-- a list that nobody owns is written -/
theorem Fm.side {K : PySem.W.Frag} {B T : Addr → Prop} {H : Hp} {fps : Nat → List Addr} {σ : L2.St} {e : Env} {p : Addr} {vs us : List V} (f : Fm K H T B fps σ e) (hp : H p = some (.lst vs)) (hT : ¬ T p) (hB : ¬ B p) (hF : ∀ j, p ∉ fps j) : Fm K (upd H p (.lst us)) T B fps σ e := by
  have nfr : ∀ {c o u}, H c = some (.frz o u) → c ≠ p := fun h z => by rw [z, hp] at h; cases h
  have kT : Kept H (upd H p (.lst us)) T T := ⟨fun _ h => h, fun a o ht h => by rw [upd_ne (fun z => hT (by rw [← z]; exact ht))]; exact h, fun a o u h => by rw [upd_ne (nfr h)]; exact h⟩
  have kB : Kept H (upd H p (.lst us)) (TB T B) (TB T B) := ⟨fun _ h => h, fun a o ht h => by rw [upd_ne (fun z => ht.elim (fun q => hT (by rw [← z]; exact q)) (fun q => hB (by rw [← z]; exact q)))]; exact h, fun a o u h => by rw [upd_ne (nfr h)]; exact h⟩
  exact ⟨f.len, fun i => (f.sl i).keep kT kB fun a ha o h => by rw [upd_ne (fun z => hF i (by rw [← z]; exact ha))]; exact h, f.nd, f.dj, f.dT, f.dB, fun a h => upd_some (f.td a h), fun a h => upd_some (f.bd a h)⟩
theorem Ext.side {B T T1 : Addr → Prop} {H H1 : Hp} {fps fps1 : Nat → List Addr} {p : Addr} {o : HO} (x : Ext B H T fps H1 T1 fps1) (hp : H p = none) : Ext B H T fps (upd H1 p o) T1 fps1 :=
  ⟨x.t, fun a u h hn => by rw [upd_ne (ne_of_none h hp)]; exact x.keep a u h hn, fun a u ht h => by rw [upd_ne (ne_of_none h hp)]; exact x.tb a u ht h, fun a u w h => by rw [upd_ne (ne_of_none h hp)]; exact x.frz a u w h, x.nT, x.nF, fun a h => upd_some (x.dm a h)⟩
/-- a place that stands there and is nobody's stays so -/
theorem Ext.alone {B T T1 : Addr → Prop} {H H1 : Hp} {fps fps1 : Nat → List Addr} {p : Addr} {o : HO} (x : Ext B H T fps H1 T1 fps1) (hp : H p = some o) (hT : ¬ T p) (hF : ∀ j, p ∉ fps j) : H1 p = some o ∧ ¬ T1 p ∧ ∀ j, p ∉ fps1 j := by
  refine ⟨x.keep p o hp hF, fun z => ?_, fun j z => ?_⟩
  · rcases x.nT p z with q | ⟨j, q⟩ | q
    · exact hT q
    · exact hF j q
    · rw [hp] at q; cases q
  · rcases x.nF p j z with q | q
    · exact hF j q
    · rw [hp] at q; cases q
def turnOf (call : CallF) (t : Tg) (c a : Ex) : D → Env → Out (Option D) := fun y ey => (lift ey (t.bind y (wipe ey t.vars))).bind fun e2 _ => (truthOf (ev call c e2)).bind fun k e3 => if k = true then (valOf (ev call a e3)).bind fun d e4 => .ok (some d) e4 else .ok none e3
/-- the comprehension's loop -/
theorem comp_loop {K : PySem.W.Frag} {t : Tg} {B T1 : Addr → Prop} {H1 : Hp} {fps1 : Nat → List Addr} {σ : L2.St} {e1 e2 : Env} {xs acc : List D} {pr : Bool} {J : L2.It} {D0 : Addr} {Qd : Hp → Prop} (hpr : pr = true → ∃ i j, t = .tup [i, j])
    (f1 : Fm K H1 T1 B (fpW fps1 t.vars) (L2.wipe σ t.vars) (MP.wipe e1 t.vars)) (hJ : Feeds K J xs pr B H1 T1 (fpW fps1 t.vars)) (hD : H1 D0 = none) (hl : compLoop (turnOf call t c a) xs [] e1 = .ok acc e2)
    (hfin : ∀ H2 T2 fps2, Ext B H1 T1 (fpW fps1 t.vars) H2 T2 fps2 → Fm K H2 T2 B fps2 (L2.wipe σ t.vars) (MP.wipe e2 t.vars) → (∃ us, H2 D0 = some (.lst us) ∧ RpAll K H2 T2 us acc) → ¬ T2 D0 → (∀ j, D0 ∉ fps2 j) → Qd H2) :
    ∃ W : Nat → Nat → Hp → Prop, (∃ m, W 0 m (upd H1 D0 (.lst []))) ∧ ∀ i m H, W i m H →
      (J.stop i H ∧ Qd H) ∨ (J.go i H ∧ ∃ Nx : Hp → Prop, (∀ H', Nx H' → ∃ m', m' < m ∧ W (i + 1) m' H') ∧ ∀ x H', J.yld i H x H' → gTg K t x (L2.wipe σ t.vars) H' fun σ2 H2 => L2.wipe σ2 t.vars = L2.wipe σ t.vars ∧ rdT K XR (fun _ _ _ _ => False) (fun e => truthOf (ev call c e)) σ2 H2 fun b H3 =>
        if b = true then rdV K XR (fun _ _ _ _ => False) (fun e => valOf (ev call a e)) σ2 H3 fun y H4 => ∃ acc, H4 D0 = some (.lst acc) ∧ acc.length < sizeLine ∧ Nx (upd H4 D0 (.lst (acc ++ [y]))) else Nx H3) := by
  have hB : ¬ B D0 := fun z => f1.bd D0 z hD
  refine ⟨fun i m H => m = xs.length - i ∧ i ≤ xs.length ∧ ∃ T fps e ac us, Ext B H1 T1 (fpW fps1 t.vars) H T fps ∧ Fm K H T B fps (L2.wipe σ t.vars) (MP.wipe e t.vars) ∧ H D0 = some (.lst us) ∧ RpAll K H T us ac ∧ ¬ T D0 ∧ (∀ j, D0 ∉ fps j) ∧ compLoop (turnOf call t c a) (xs.drop i) ac e = .ok acc e2,
    ⟨xs.length, by simp, Nat.zero_le _, T1, _, e1, [], [], (Ext.refl).side hD, f1.new hD, upd_same, .nil, fun z => f1.td D0 z hD, fun j z => f1.notNone hD z, hl⟩, ?_⟩
  rintro i m H ⟨rfl, hi, T, fps, e, ac, us, x, f, hD', ru, nT, nF, hc⟩
  obtain ⟨hstop, hgo⟩ := hJ H T fps x.weak i
  by_cases hlt : i < xs.length
  · obtain ⟨y, hy⟩ : ∃ y, xs[i]? = some y := ⟨_, List.getElem?_eq_getElem hlt⟩
    obtain ⟨go, step⟩ := hgo y hy
    rw [List.drop_eq_getElem_cons hlt, show xs[i] = y by rw [List.getElem?_eq_getElem hlt] at hy; exact Option.some.inj hy] at hc
    unfold compLoop at hc
    refine .inr ⟨go, fun H' => ∃ T' fps' e' ac' us', Ext B H1 T1 (fpW fps1 t.vars) H' T' fps' ∧ Fm K H' T' B fps' (L2.wipe σ t.vars) (MP.wipe e' t.vars) ∧ H' D0 = some (.lst us') ∧ RpAll K H' T' us' ac' ∧ ¬ T' D0 ∧ (∀ j, D0 ∉ fps' j) ∧ compLoop (turnOf call t c a) (xs.drop (i + 1)) ac' e' = .ok acc e2, fun H' ⟨T', fps', e', ac', us', h⟩ => ⟨xs.length - (i + 1), by omega, rfl, by omega, T', fps', e', ac', us', h⟩, fun v H' hy => ?_⟩
    obtain ⟨hn, yd⟩ := step v H' hy
    obtain ⟨f', x'⟩ := f.step hn
    obtain ⟨hD2, nT', nF'⟩ := x'.alone hD' nT nF
    -- what the turn does
    have turn : ∃ eb, t.bind y (MP.wipe e t.vars) = some eb ∧ OutOk (truthOf (ev call c eb)) (fun k e3 => if k = true then OutOk (valOf (ev call a e3)) (fun d e4 => ac.length < line ∧ compLoop (turnOf call t c a) (xs.drop (i + 1)) (ac ++ [d]) e4 = .ok acc e2) (fun _ _ => False) else compLoop (turnOf call t c a) (xs.drop (i + 1)) ac e3 = .ok acc e2) (fun _ _ => False) := by
      cases hb : t.bind y (MP.wipe e t.vars) with
      | none =>
        have hx : turnOf call t c a y e = .bad := by unfold turnOf; rw [hb]; rfl
        rw [hx] at hc; cases hc
      | some eb =>
        refine ⟨eb, rfl, ?_⟩
        have hx : turnOf call t c a y e = (truthOf (ev call c eb)).bind fun k e3 => if k = true then (valOf (ev call a e3)).bind fun d e4 => .ok (some d) e4 else .ok none e3 := by unfold turnOf; rw [hb]; rfl
        rw [hx] at hc
        cases h1 : truthOf (ev call c eb) with
        | bad => rw [h1] at hc; cases hc
        | exc z e3 => rw [h1] at hc; cases hc
        | ok k e3 =>
          rw [h1] at hc
          cases k with
          | false => exact hc
          | true =>
            show OutOk (valOf (ev call a e3)) _ _
            cases h2 : valOf (ev call a e3) with
            | bad => simp only [Out.bind, if_true, h2] at hc; cases hc
            | exc z e4 => simp only [Out.bind, if_true, h2] at hc; cases hc
            | ok d e4 =>
              simp only [Out.bind, if_true, h2] at hc
              split at hc
              · exact ⟨‹_›, hc⟩
              · cases hc
    obtain ⟨eb, hb, tq⟩ := turn
    refine gTg_ok hb yd hpr f' fun σ2 fpsb fb xb wb _ _ => ?_
    have wσ : L2.wipe σ2 t.vars = L2.wipe σ t.vars := by rw [wb t.vars fun _ h => h, wipeS_idem fun _ h => h]
    refine ⟨wσ, T, B, fpsb, eb, fb, tq.mono (fun k e3 tq H3 T3 fps3 x3 f3 => ?_) fun _ _ z => z.elim⟩
    have xb3 := x'.trans (xb.trans x3)
    obtain ⟨hD3, nT3, nF3⟩ := xb3.alone hD' nT nF
    cases k with
    | false =>
      obtain ⟨fw, xw⟩ := f3.wipe t.vars
      rw [wσ] at fw
      exact ⟨T3, _, e3, ac, us, (x.trans xb3).trans xw, fw, hD3, ru.keep xb3.kept, nT3, fun j z => nF3 j (fpW_mem z).2, tq⟩
    | true =>
      refine ⟨T3, B, fps3, e3, f3, OutOk.mono tq (fun d e4 tq w H4 T4 fps4 x4 f4 r4 => ?_) fun _ _ z => z.elim⟩
      obtain ⟨hlen, tq⟩ := tq
      have xb4 := xb3.trans x4
      obtain ⟨hD4, nT4, nF4⟩ := xb4.alone hD' nT nF
      have hul : us.length < sizeLine := by rw [ru.length, ← line_eq]; exact hlen
      refine ⟨us, hD4, hul, ?_⟩
      obtain ⟨fw, xw⟩ := f4.wipe t.vars
      rw [wσ] at fw
      have nFw : ∀ j, D0 ∉ fpW fps4 t.vars j := fun j z => nF4 j (fpW_mem z).2
      have kk : Kept H4 (upd H4 D0 (.lst (us ++ [w]))) T4 T4 := ⟨fun _ h => h, fun a o ht h => by rw [upd_ne (fun z => nT4 (by rw [← z]; exact ht))]; exact h, fun a o u h => by rw [upd_ne (fun z => by rw [z, hD4] at h; cases h)]; exact h⟩
      exact ⟨T4, _, e4, ac ++ [d], us ++ [w], ((x.trans xb4).trans xw).side hD, fw.side hD4 nT4 hB nFw, upd_same, ((ru.keep xb4.kept).append (.one r4)).keep kk, nT4, nFw, tq⟩
  · have e0 : i = xs.length := by omega
    subst e0
    rw [List.drop_length] at hc
    cases hc
    exact .inl ⟨hstop rfl, hfin H T fps x f ⟨us, hD', ru⟩ nT nF⟩
theorem PTs.imp {X : Cx} {x : List Expr} {t t' : TT} (h : PTs X x t) (hi : ∀ σ H Q, t' σ H Q → t σ H Q) : PTs X x t' := ⟨fun pins s σ H Q I hw => h.run pins s σ H Q I (hi σ H Q hw)⟩
theorem need_of {it : It} {t : Tg} (h : needTup it t = true) : it.pr = true → ∃ i j, t = .tup [i, j] := fun hp => by
  cases it <;> first | (cases hp; done) | skip
  all_goals
    unfold needTup at h
    split at h <;> first | exact ⟨_, _, rfl⟩ | (cases h; done) | (rename_i h1 h2; simp_all)
theorem trTg_tup {N : List Str} {sc : Str → Bool} {is : List Nat} {w : Expr} (h : trTg N sc (.tup is) w = true) : isTup w = true := by
  cases w <;> first | rfl | (simp [trTg] at h; done)
theorem own_ix {N : List Str} {t : Tg} : (ownOf N t).map (·.2) = t.vars := by
  unfold ownOf
  rw [List.map_map]
  exact List.map_id' _
theorem comp_parts {t : Tg} {it : It} (hi : EvIP call XR n it) (hc : EvP call XR n c) (ha : EvP call XR n a) {X : Cx} {W : WX} (G : Gd X call XR W n) {x : Expr} (ht : tr X.N (.comp t it c a) X.env.scope x = true) :
    ∃ y w z cs scope pos, x = .ListComp y [⟨w, z, cs, 0⟩] scope pos ∧ PI X w z (rdC X.K XR W call it) ∧ BlkOk X.N X.env.scope scope (ownOf X.N t) ∧
      (∀ (s : Shared) (H : Hp) (C : Addr) (cl : List (Str × Addr)) (fp : List Addr), PG (X.blk s H scope (compEnvC scope cl C X.env) fp) w (gTg X.K t)) ∧
      (∀ (s : Shared) (H : Hp) (C : Addr) (cl : List (Str × Addr)) (fp : List Addr), PTs (X.blk s H scope (compEnvC scope cl C X.env) fp) cs (rdT X.K XR (fun _ _ _ _ => False) fun e => truthOf (ev call c e))) ∧
      (∀ (s : Shared) (H : Hp) (C : Addr) (cl : List (Str × Addr)) (fp : List Addr), PE (X.blk s H scope (compEnvC scope cl C X.env) fp) y (rdV X.K XR (fun _ _ _ _ => False) fun e => valOf (ev call a e))) ∧ plainX z = true ∧
      ∀ σ H Q, rdE X.K XR W (ev call (.comp t it c a)) σ H Q → tLc (rdC X.K XR W call it) (gTg X.K t) (rdT X.K XR (fun _ _ _ _ => False) fun e => truthOf (ev call c e)) (rdV X.K XR (fun _ _ _ _ => False) fun e => valOf (ev call a e)) ((ownOf X.N t).map (·.2)) σ H Q := by
  unfold tr at ht
  split at ht
  · rename_i y w z cs scope pos
    simp only [Bool.and_eq_true] at ht
    obtain ⟨⟨⟨⟨⟨h1, h2⟩, h3⟩, h4⟩, h5⟩, h6⟩ := ht
    have hneed := need_of h3
    obtain ⟨pi, pz⟩ := evi_comp hi G (tg := w) h4 fun hp => by
      obtain ⟨i, j, rfl⟩ := hneed hp
      exact trTg_tup h2
    have pg : ∀ (s : Shared) (H : Hp) (C : Addr) (cl : List (Str × Addr)) (fp : List Addr), PG (X.blk s H scope (compEnvC scope cl C X.env) fp) w (gTg X.K t) := fun s H C cl fp => pg_of (X := X.blk s H scope (compEnvC scope cl C X.env) fp) (ok := isSto scope) (fun x hx => by
      rcases sto_of hx with z | z
      · exact ⟨.inl (relS_lookup z (fun q => nomatch q)), .inr (relS_lookup z (fun q => nomatch q))⟩
      · exact ⟨.inr (relS_lookup z (fun q => nomatch q)), .inl (by show (scope.names.lookup x == some NameKind.cell) = true; rw [z]; rfl)⟩) G.calm G.nd h2
    have pt : ∀ (s : Shared) (H : Hp) (C : Addr) (cl : List (Str × Addr)) (fp : List Addr), PTs (X.blk s H scope (compEnvC scope cl C X.env) fp) cs (rdT X.K XR (fun _ _ _ _ => False) fun e => truthOf (ev call c e)) := fun s H C cl fp => by
      cases cs with
      | nil =>
        have hl : c = .lit (.bool true) := by
          revert h5
          show isLitTrue c = true → _
          unfold isLitTrue
          split
          · intro _; rfl
          · intro z; cases z
        subst hl
        exact PTs.imp pts_nil fun σ H Q ⟨T, B, fps, e, f, q⟩ => q H T fps .refl f
      | cons q qs =>
        cases qs with
        | nil => exact pts_one (hc.pt (G.blk s H scope _ fp) h5)
        | cons _ _ => cases h5
    have pe : ∀ (s : Shared) (H : Hp) (C : Addr) (cl : List (Str × Addr)) (fp : List Addr), PE (X.blk s H scope (compEnvC scope cl C X.env) fp) y (rdV X.K XR (fun _ _ _ _ => False) fun e => valOf (ev call a e)) := fun s H C cl fp => ha.pv (G.blk s H scope _ fp) h6
    refine ⟨y, w, z, cs, scope, pos, rfl, pi, blkOk_by h1, pg, pt, pe, pz, fun σ H Q ⟨T, B, fps, e, f, q⟩ => ?_⟩
    rw [own_ix]
    -- the end, from the loop's base state
    have core : ∀ {T1 : Addr → Prop} {H1 : Hp} {fps1 : Nat → List Addr} {e1 : Env} {xs : List D} {J : L2.It} {pr : Bool} (K2 : List D → Env → Prop), (pr = true → ∃ i j, t = .tup [i, j]) → Fm X.K H1 T1 B fps1 σ e1 → Feeds X.K J xs pr B H1 T1 fps1 →
        (∃ acc e2, compLoop (turnOf call t c a) xs [] e1 = .ok acc e2 ∧ ∀ H2 T2 fps3 D0, H1 D0 = none → Ext B H1 T1 fps1 H2 T2 fps3 → Fm X.K H2 T2 B fps3 σ (MP.restore e1 e2 t.vars) → (∃ us, H2 D0 = some (.lst us) ∧ RpAll X.K H2 T2 us acc) → ¬ T2 D0 → (∀ j, D0 ∉ fps3 j) → ¬ B D0 → Q (.ref D0) H2) →
        ∀ D0, H1 D0 = none → ∃ W : Nat → Nat → Hp → Prop, (∃ m, W 0 m (upd H1 D0 (.lst []))) ∧ ∀ i m H, W i m H →
          (J.stop i H ∧ Q (.ref D0) H) ∨ (J.go i H ∧ ∃ Nx : Hp → Prop, (∀ H', Nx H' → ∃ m', m' < m ∧ W (i + 1) m' H') ∧ ∀ x H', J.yld i H x H' → gTg X.K t x (L2.wipe σ t.vars) H' fun σ2 H2 => L2.wipe σ2 t.vars = L2.wipe σ t.vars ∧ rdT X.K XR (fun _ _ _ _ => False) (fun e => truthOf (ev call c e)) σ2 H2 fun b H3 =>
            if b = true then rdV X.K XR (fun _ _ _ _ => False) (fun e => valOf (ev call a e)) σ2 H3 fun y H4 => ∃ acc, H4 D0 = some (.lst acc) ∧ acc.length < sizeLine ∧ Nx (upd H4 D0 (.lst (acc ++ [y]))) else Nx H3) := fun {T1 H1 fps1 e1 xs J pr} K2 hpr f1 hJ ⟨acc, e2, hl, hq⟩ D0 hD => by
      obtain ⟨fw, xw⟩ := f1.wipe t.vars
      refine comp_loop hpr fw (hJ.ext xw) hD hl fun H2 T2 fps2 x2 f2 hu nT nF => ?_
      obtain ⟨fps3, f3, x3, n3⟩ := f1.restore x2 f2
      exact hq H2 T2 fps3 D0 hD x3 f3 hu nT (n3 D0 (fun j z => f1.notNone hD z) nF) fun z => f1.bd D0 z hD
    refine ⟨T, B, fps, e, f, ?_⟩
    have q : OutOk (ev call (.comp t it c a) e) _ _ := q
    unfold ev at q
    cases hl : lentAt it e with
    | some p =>
      obtain ⟨i, xs⟩ := p
      rw [hl] at q
      show ∀ J, Feeds X.K J xs false B H T (fpSet fps i []) → _
      intro J hJ
      have hs : slot e i = .ol xs := by
        unfold lentAt at hl
        split at hl
        · cases hl; assumption
        · cases hl
      have hi : i < e.length := f.lt_of (by rw [hs]; exact fun z => nomatch z)
      obtain ⟨fu, xu⟩ := f.hide hi
      refine core (pr := false) (fun _ _ => True) (fun z => nomatch z) fu hJ ?_
      have q : OutOk (match compLoop (turnOf call t c a) xs [] (e.set i .u) with
        | .ok acc e2 => Out.ok (R.fr acc) ((MP.restore (e.set i .u) e2 t.vars).set i (.ol xs))
        | .exc _ _ => .bad
        | .bad => .bad) _ _ := q
      cases hc : compLoop (turnOf call t c a) xs [] (e.set i .u) with
      | bad => rw [hc] at q; exact q.elim
      | exc _ _ => rw [hc] at q; exact q.elim
      | ok acc e2 =>
        rw [hc] at q
        refine ⟨acc, e2, rfl, fun H2 T2 fps3 D0 hD x3 f3 hu nT nF nB => ?_⟩
        obtain ⟨us, hu, ru⟩ := hu
        obtain ⟨f4, x4⟩ := f.unhide hi x3 f3
        rw [hs] at f4
        refine q (.ref D0) H2 T2 _ [D0] ⟨x4, f4, ⟨D0, us, rfl, rfl, hu, ru⟩, by simp, fun b hb => ?_⟩
        obtain rfl : b = D0 := by simpa using hb
        refine ⟨hD, nT, fun j z => ?_, nB⟩
        by_cases hj : j = i
        · subst hj; rw [fpSet_same] at z; exact f.notNone hD z
        · rw [fpSet_ne hj] at z; exact nF j z
    | none =>
      rw [hl] at q
      show OutOk (evI call it e) _ _
      refine (OutOk.bind q).mono (fun xs e1 q J H1 T1 fps1 x1 f1 hJ => ?_) fun _ _ q => q
      refine core (fun _ _ => True) hneed f1 hJ ?_
      have q : OutOk (match compLoop (turnOf call t c a) xs [] e1 with
        | .ok acc e2 => Out.ok (R.fr acc) (MP.restore e1 e2 t.vars)
        | .exc _ _ => .bad
        | .bad => .bad) _ _ := q
      cases hc : compLoop (turnOf call t c a) xs [] e1 with
      | bad => rw [hc] at q; exact q.elim
      | exc _ _ => rw [hc] at q; exact q.elim
      | ok acc e2 =>
        rw [hc] at q
        refine ⟨acc, e2, rfl, fun H2 T2 fps3 D0 hD x3 f3 hu nT nF nB => ?_⟩
        obtain ⟨us, hu, ru⟩ := hu
        refine q (.ref D0) H2 T2 _ [D0] ⟨x1.trans x3, f3, ⟨D0, us, rfl, rfl, hu, ru⟩, by simp, fun b hb => ?_⟩
        obtain rfl : b = D0 := by simpa using hb
        exact ⟨x1.back hD, nT, nF, nB⟩
  · cases ht
theorem ev_comp {t : Tg} {it : It} (hi : EvIP call XR n it) (hc : EvP call XR n c) (ha : EvP call XR n a) : EvP call XR n (.comp t it c a) := EvP.plain (fun _ z => nomatch z) fun X W G x ht => by
  obtain ⟨y, w, z, cs, scope, pos, rfl, pi, ok, pg, pt, pe, pz, rd⟩ := comp_parts hi hc ha G (W := W) ht
  exact ⟨PE.imp (pe_lc G.calm G.nd pi ok pg pt pe (plainX_fold pz _)) rd, rfl⟩
end
end MP
end

section
set_option autoImplicit false
set_option linter.all false
set_option maxRecDepth 100000
/-! Which statements of the program's text a program of Mini's stands for. -/
namespace MP
open PySem PySem.Spec PyProof.Rows L2

def isComp : Expr → Bool
  | .ListComp .. => true
  | .SetComp .. => true
  | .DictComp .. => true
  | _ => false
def isComps : Ex → Bool
  | .comp .. => true
  | _ => false
def lcl (N : List Str) (sc : Scope) (i : Nat) (x : Str) : Bool := decide (N[i]? = some x) && isSto sc x
/-- a, b = x, y: stored from the right -/
def swOk2 (px py : Pos) (x y : Str) (a b : Expr) : Bool := (px.line == py.line) && !(x == y) && plainX a && plainX b && !([a, b].all (foldedForSure 8)) && !([a, b].all (constantsAlone 8))
def swOk3 (px py pz : Pos) (x y z : Str) (a b c : Expr) : Bool := (px.line == py.line) && (px.line == pz.line) && !(x == y) && !(x == z) && !(y == z) && plainX a && plainX b && plainX c && !([a, b, c].all (foldedForSure 8)) && !([a, b, c].all (constantsAlone 8))
def isTupE : Expr → Bool
  | .Tuple .. => true
  | _ => false
def augOp : BOp → Bool
  | .add => true
  | .sub => true
  | _ => false
/-- except suites; xi: the slot of the caught exception's name -/
def xnm (N : List Str) (sc : Scope) (xi : Option Nat) (y : Str) : Bool := match xi with
  | some i => nm N sc i y
  | none => false
def trHE (N : List Str) (xi : Option Nat) : HEx → Scope → Expr → Bool
  | .lit d, _, x => match x with
    | .Constant c _ _ => constOk d c
    | _ => false
  | .var i, sc, x => match x with
    | .Name y _ => nm N sc i y
    | _ => false
  | .fld f, sc, x => match x with
    | .Attribute (.Name y _) g _ => xnm N sc xi y && decide (g = Str.ofString f)
    | _ => false
  | .isC c, sc, x => match x with
    | .Call (.Name g _) [.Name y _, .Name t _] [] _ => gl sc g "isinstance" && xnm N sc xi y && gl sc t c
    | _ => false
  | .not a, sc, x => match x with
    | .UnaryOp .Not y _ => trHE N xi a sc y
    | _ => false
  | .and a b, sc, x => match x with
    | .BoolOp .And (y :: z :: rest) pos => trHE N xi a sc y && (match rest with | [] => trHE N xi b sc z | _ :: _ => trHE N xi b sc (.BoolOp .And (z :: rest) pos))
    | _ => false
  | .or a b, sc, x => match x with
    | .BoolOp .Or (y :: z :: rest) pos => trHE N xi a sc y && (match rest with | [] => trHE N xi b sc z | _ :: _ => trHE N xi b sc (.BoolOp .Or (z :: rest) pos))
    | _ => false
  | .cmp o a b, sc, x => match x with
    | .Compare y [op] [z] _ => decide (copOf o = op) && trHE N xi a sc y && trHE N xi b sc z
    | _ => false
  | .ife c a b, sc, x => match x with
    | .IfExp w y z _ => trHE N xi c sc w && trHE N xi a sc y && trHE N xi b sc z
    | _ => false
  | .nil, _, x => match x with
    | .Tuple [] _ _ => true
    | _ => false
  | .tup1 a, sc, x => match x with
    | .Tuple [y] _ _ => trHE N xi a sc y
    | _ => false
  | .tup2 a b, sc, x => match x with
    | .Tuple [y, z] _ _ => trHE N xi a sc y && trHE N xi b sc z
    | _ => false
mutual
def trHs (N : List Str) (sc : Scope) (xi : Option Nat) : HSt → Stmt → Bool
  | .ret h, s => match s with
    | .Return (some y) _ => trHE N xi h sc y
    | _ => false
  | .ite c a b, s => match s with
    | .If x y z _ => trHE N xi c sc x && trHss N sc xi a y && trHss N sc xi b z
    | _ => false
def trHss (N : List Str) (sc : Scope) (xi : Option Nat) : HSs → List Stmt → Bool
  | .nil, xs => xs.isEmpty
  | .cons s ss, xs => match xs with
    | y :: ys => trHs N sc xi s y && trHss N sc xi ss ys
    | [] => false
end
def trHd (N : List Str) (sc : Scope) : Hds → List ExceptHandler → Bool
  | .one c h, xs => match xs with
    | [.ExceptHandler (some (.Name x _)) none (b :: suite) _] => gl sc x c && trHss N sc none h (b :: suite)
    | _ => false
  | .named c i h, xs => match xs with
    | [.ExceptHandler (some (.Name x _)) (some y) (b :: suite) _] => gl sc x c && decide (N[i]? = some y) && isLoc sc y && trHss N sc (some i) h (b :: suite)
    | _ => false
  | .two c h c2 h2, xs => match xs with
    | [.ExceptHandler (some (.Name x _)) none (b :: suite) _, .ExceptHandler (some (.Name x2 _)) none (b2 :: suite2) _] => gl sc x c && trHss N sc none h (b :: suite) && gl sc x2 c2 && trHss N sc none h2 (b2 :: suite2)
    | _ => false
mutual
def trS (N : List Str) (sc : Scope) : St → Stmt → Bool
  | .expr x, s => match s with
    | .Expr y _ => !isComp y && tr N x sc y
    | _ => false
  | .raise c es, s => match s with
    | .Raise (some (.Call (.Name x _) (y :: ys) [] _)) none _ => gl sc x c && trs N es sc (y :: ys)
    | _ => false
  | .try b h, s => match s with
    | .Try body hds [] [] _ => trSs N sc b body && trHd N sc h hds
    | _ => false
  | .asg i x, s => match s with
    | .Assign [.Name y _] z _ => lcl N sc i y && (isComps x || !isComp z) && tr N x sc z
    | _ => false
  | .asgO i x, s => match s with
    | .Assign [.Name y _] z _ => lcl N sc i y && (isComps x || !isComp z) && tr N x sc z
    | _ => false
  | .asgT is x, s => match s with
    | .Assign [.Tuple ts _ _] z _ => tgOk N (isSto sc) is ts && !isComp z && tr N x sc z && (match x with
      | .tup es => (match ts, z with
        | [.Name y1 p1, .Name y2 p2], .Tuple [a, b] _ _ => isLoc sc y1 && isLoc sc y2 && swOk2 p1 p2 y1 y2 a b && trs N es sc [a, b]
        | [.Name y1 p1, .Name y2 p2, .Name y3 p3], .Tuple [a, b, c] _ _ => isLoc sc y1 && isLoc sc y2 && isLoc sc y3 && swOk3 p1 p2 p3 y1 y2 y3 a b c && trs N es sc [a, b, c]
        | _, _ => false)
      | _ => !isTupE z)
    | _ => false
  | .asgI i k x, s => match s with
    | .Assign [.Subscript (.Name y _) z _] w _ => nm N sc i y && !isComp w && tr N k sc z && tr N x sc w
    | _ => false
  | .aug i o x, s => match s with
    | .AugAssign (.Name y _) op z _ => lcl N sc i y && augOp o && decide (bopOf o = op) && tr N x sc z
    | _ => false
  | .augI i k o x, s => match s with
    | .AugAssign (.Subscript (.Name y _) w _) op z _ => nm N sc i y && augOp o && decide (bopOf o = op) && tr N k sc w && tr N x sc z
    | _ => false
  | .ite c a b, s => match s with
    | .If x y z _ => tr N c sc x && trSs N sc a y && trSs N sc b z
    | _ => false
  | .while c b, s => match s with
    | .While x y [] _ => tr N c sc x && trSs N sc b y
    | _ => false
  | .for t it b, s => match s with
    | .For w x y [] _ => trTg N (isSto sc) t w && needTup it t && trI N it sc x && trSs N sc b y
    | _ => false
  | .ret x, s => match s with
    | .Return (some y) _ => tr N x sc y
    | _ => false
  | .retN, s => match s with
    | .Return none _ => true
    | _ => false
  | .pass, s => match s with
    | .Pass _ => true
    | _ => false
def trSs (N : List Str) (sc : Scope) : Sts → List Stmt → Bool
  | .nil, xs => xs.isEmpty
  | .cons s ss, xs => match xs with
    | y :: ys => trS N sc s y && trSs N sc ss ys
    | [] => false
end
end MP
end

section
set_option autoImplicit false
set_option linter.all false
set_option maxRecDepth 100000
/-! Soundness of statements, 1: readings, the small statements. -/
namespace MP
open PySem PySem.Spec PyProof.Rows L2

def Same (io : List Nat) (σ σ' : L2.St) : Prop := ∀ i ∈ io, σ'[i]? = σ[i]?
/-- from one state to a later one, by statements: io slots keep their places -/
structure Sx (io : List Nat) (B : Addr → Prop) (H : Hp) (T : Addr → Prop) (fps : Nat → List Addr) (H' : Hp) (T' : Addr → Prop) (fps' : Nat → List Addr) : Prop where
  w : WExt B H T fps H' T' fps'
  i : ∀ a i, i ∈ io → a ∈ fps' i → a ∈ fps i ∨ H a = none
  o : ∀ a i, i ∉ io → a ∈ fps' i → (∃ j, j ∉ io ∧ a ∈ fps j) ∨ H a = none
/-- what is handed back -/
structure Rt (K : PySem.W.Frag) (io : List Nat) (B : Addr → Prop) (H : Hp) (fps : Nat → List Addr) (r : R) (v : V) (H' : Hp) (T' : Addr → Prop) (fps' : Nat → List Addr) (fp : List Addr) : Prop where
  rr : RR K H' T' B v r fp
  fr : r.free = true
  nd : fp.Nodup
  nw : ∀ a ∈ fp, (H a = none ∨ ∃ j, j ∉ io ∧ a ∈ fps j) ∧ ¬ T' a ∧ (∀ i, a ∉ fps' i) ∧ ¬ B a
def eArmS (K : PySem.W.Frag) (XR : XRel) (W : WX) (io : List Nat) (B : Addr → Prop) (H : Hp) (T : Addr → Prop) (fps : Nat → List Addr) (σ : L2.St) (x : Exn) (e' : Env) : Prop :=
  ∀ σ' H' T' fps', Sx io B H T fps H' T' fps' → Fm K H' T' B fps' σ' e' → Same io σ σ' → ∀ cls d, XR x cls d H' → W cls d σ' H'
def flOk (K : PySem.W.Frag) (io : List Nat) (D : Ends) (B : Addr → Prop) (H : Hp) (T : Addr → Prop) (fps : Nat → List Addr) (σ : L2.St) (fl : Flow) (e' : Env) : Prop := match fl with
  | .nx => ∀ σ' H' T' fps', Sx io B H T fps H' T' fps' → Fm K H' T' B fps' σ' e' → Same io σ σ' → D.nx σ' H'
  | .rt r => ∀ v σ' H' T' fps' fp, Sx io B H T fps H' T' fps' → Fm K H' T' B fps' σ' e' → Same io σ σ' → Rt K io B H fps r v H' T' fps' fp → D.rt v H'
def rdS (K : PySem.W.Frag) (XR : XRel) (W : WX) (io : List Nat) (o : Env → Out Flow) : TS := fun D σ H => ∃ T B fps e, Fm K H T B fps σ e ∧ OutOk (o e) (flOk K io D B H T fps σ) (eArmS K XR W io B H T fps σ)
section
variable {K : PySem.W.Frag} {XR : XRel} {W : WX} {io : List Nat} {B T T1 T2 : Addr → Prop} {H H1 H2 : Hp} {fps fps1 fps2 : Nat → List Addr} {σ σ1 : L2.St} {e e1 : Env}
theorem Same.refl : Same io σ σ := fun _ _ => rfl
theorem Same.trans {σ2 : L2.St} (a : Same io σ σ1) (b : Same io σ1 σ2) : Same io σ σ2 := fun i h => (b i h).trans (a i h)
theorem Same.set {i : Nat} {z : Option V} (h : i ∉ io) : Same io σ (σ.set i z) := fun j hj => by
  rw [List.getElem?_set_ne (fun q => h (by rw [q]; exact hj))]
theorem Ext.sx (x : Ext B H T fps H1 T1 fps1) : Sx io B H T fps H1 T1 fps1 := ⟨x.weak, fun a i _ h => x.nF a i h, fun a i hi h => (x.nF a i h).imp (fun z => ⟨i, hi, z⟩) id⟩
theorem Sx.refl : Sx io B H T fps H T fps := Ext.refl.sx
theorem Sx.trans (a : Sx io B H T fps H1 T1 fps1) (b : Sx io B H1 T1 fps1 H2 T2 fps2) : Sx io B H T fps H2 T2 fps2 :=
  ⟨a.w.trans b.w, fun x i hi h => (b.i x i hi h).elim (a.i x i hi) fun z => .inr (a.w.back z), fun x i hi h => (b.o x i hi h).elim (fun ⟨j, hj, z⟩ => a.o x j hj z) fun z => .inr (a.w.back z)⟩
theorem Rt.trans {r : R} {v : V} {fp : List Addr} (a : Sx io B H T fps H1 T1 fps1) (p : Rt K io B H1 fps1 r v H2 T2 fps2 fp) : Rt K io B H fps r v H2 T2 fps2 fp :=
  ⟨p.rr, p.fr, p.nd, fun x hx => ⟨(p.nw x hx).1.elim (fun z => .inl (a.w.back z)) fun ⟨j, hj, z⟩ => (a.o x j hj z).elim (fun q => .inr q) fun q => .inl q, (p.nw x hx).2⟩⟩
theorem eArmS.toE {x : Exn} {e' : Env} (h : eArmS K XR W io B H T fps σ x e') : eArm K XR W B H T fps σ x e' := fun H' T' fps' a f cls d r => h σ H' T' fps' a.sx f .refl cls d r
theorem eArmS.trans {x : Exn} {e' : Env} (h : eArmS K XR W io B H T fps σ x e') (a : Sx io B H T fps H1 T1 fps1) (s : Same io σ σ1) : eArmS K XR W io B H1 T1 fps1 σ1 x e' :=
  fun σ' H' T' fps' b f s' cls d r => h σ' H' T' fps' (a.trans b) f (s.trans s') cls d r
theorem flOk.trans {D : Ends} {fl : Flow} {e' : Env} (h : flOk K io D B H T fps σ fl e') (a : Sx io B H T fps H1 T1 fps1) (s : Same io σ σ1) : flOk K io D B H1 T1 fps1 σ1 fl e' := by
  cases fl with
  | nx => exact fun σ' H' T' fps' b f s' => h σ' H' T' fps' (a.trans b) f (s.trans s')
  | rt r => exact fun v σ' H' T' fps' fp b f s' p => h v σ' H' T' fps' fp (a.trans b) f (s.trans s') (p.trans a)
theorem PS.imp {X : Cx} {x : Stmt} {t t' : TS} (h : PS X x t) (hi : ∀ D σ H, t' D σ H → t D σ H) : PS X x t' := ⟨fun pins s σ H D I hw => h.run pins s σ H D I (hi D σ H hw)⟩
theorem PSs.imp {X : Cx} {x : List Stmt} {t t' : TS} (h : PSs X x t) (hi : ∀ D σ H, t' D σ H → t D σ H) : PSs X x t' := ⟨fun pins s σ H D I hw => h.run pins s σ H D I (hi D σ H hw)⟩
/-- a def's body -/
structure Gs (X : Cx) (call : CallF) (XR : XRel) (W : WX) (n : Nat) : Prop where
  g : Gd X call XR W n
  own : PassesOwn (model X.prog X.w) X.A X.env X.xe
  kind : X.env.scope.kind = .function
  fn : ∀ x, X.fn x = true
  stk : X.stack = X.env :: X.outer
  frm : X.env.frame = some X.env.locals
def ExP (call : CallF) (XR : XRel) (n : Nat) (io : List Nat) (m : St) : Prop := ∀ (X : Cx) (W : WX), Gs X call XR W n → ∀ st : Stmt, trS X.N X.env.scope m st = true → PS X st (rdS X.K XR W io (exec call io m))
def ExsP (call : CallF) (XR : XRel) (n : Nat) (io : List Nat) (m : Sts) : Prop := ∀ (X : Cx) (W : WX), Gs X call XR W n → ∀ st : List Stmt, trSs X.N X.env.scope m st = true → PSs X st (rdS X.K XR W io (execs call io m))
variable {call : CallF} {n : Nat} {a b c : Ex}
theorem exs_nil : ExsP call XR n io .nil := fun X W G st ht => by
  unfold trSs at ht
  cases st with
  | nil => exact PSs.imp pss_nil fun D σ H ⟨T, B, fps, e, f, q⟩ => q σ H T fps .refl f .refl
  | cons _ _ => cases ht
theorem exs_cons {m : St} {ms : Sts} (h1 : ExP call XR n io m) (h2 : ExsP call XR n io ms) : ExsP call XR n io (.cons m ms) := fun X W G st ht => by
  unfold trSs at ht
  split at ht
  · rw [Bool.and_eq_true] at ht
    refine PSs.imp (pss_cons (h1 X W G _ ht.1) (h2 X W G _ ht.2)) fun D σ H ⟨T, B, fps, e, f, q⟩ => ?_
    refine ⟨T, B, fps, e, f, (OutOk.bind q).mono (fun fl e1 q => ?_) fun _ _ q => q⟩
    cases fl with
    | nx => exact fun σ' H' T' fps' x' f' s' => ⟨T', B, fps', e1, f', OutOk.mono q (fun fl e2 q => flOk.trans q x' s') fun _ _ q => eArmS.trans q x' s'⟩
    | rt r => exact q
  · cases ht
theorem swaps_none {e : Expr} {t : Option Expr} {l : Nat} {env : PySem.Env} (h : isComp e = false) : swapsWith e t l env = pure false := by
  cases e <;> first | (cases h; done) | rfl
theorem ex_expr (ha : EvP call XR n a) : ExP call XR n io (.expr a) := fun X W G st ht => by
  unfold trS at ht
  split at ht
  · simp only [Bool.and_eq_true, Bool.not_eq_true'] at ht
    refine PS.imp (ps_expr (ha.pe G.g ht.2) (swaps_none ht.1)) fun D σ H ⟨T, B, fps, e, f, q⟩ => ?_
    exact ⟨T, B, fps, e, f, (OutOk.bind q).mono (fun r e1 q v H1 T1 fps1 fp p => q σ H1 T1 fps1 p.ext.sx p.fm .refl) fun _ _ q => eArmS.toE q⟩
  · cases ht
theorem ex_ite {s1 s2 : Sts} (hc : EvP call XR n c) (h1 : ExsP call XR n io s1) (h2 : ExsP call XR n io s2) : ExP call XR n io (.ite c s1 s2) := fun X W G st ht => by
  unfold trS at ht
  split at ht
  · simp only [Bool.and_eq_true] at ht
    obtain ⟨⟨t1, t2⟩, t3⟩ := ht
    refine PS.imp (ps_if (hc.pt G.g t1) (h1 X W G _ t2) (h2 X W G _ t3)) fun D σ H ⟨T, B, fps, e, f, q⟩ => ?_
    refine ⟨T, B, fps, e, f, (OutOk.bind q).mono (fun k e1 q H1 T1 fps1 x1 f1 => ?_) fun _ _ q => eArmS.toE q⟩
    cases k with
    | true => exact ⟨T1, B, fps1, e1, f1, OutOk.mono q (fun fl e2 q => flOk.trans q x1.sx .refl) fun _ _ q => eArmS.trans q x1.sx .refl⟩
    | false => exact ⟨T1, B, fps1, e1, f1, OutOk.mono q (fun fl e2 q => flOk.trans q x1.sx .refl) fun _ _ q => eArmS.trans q x1.sx .refl⟩
  · cases ht
theorem ex_pass : ExP call XR n io .pass := fun X W G st ht => by
  unfold trS at ht
  split at ht
  · exact PS.imp ps_pass fun D σ H ⟨T, B, fps, e, f, q⟩ => q σ H T fps .refl f .refl
  · cases ht
theorem ex_retN : ExP call XR n io .retN := fun X W G st ht => by
  unfold trS at ht
  split at ht
  · exact PS.imp ps_retN fun D σ H ⟨T, B, fps, e, f, q⟩ => q .non σ H T fps [] .refl f .refl ⟨⟨rfl, .non⟩, rfl, List.nodup_nil, fun _ z => nomatch z⟩
  · cases ht
/-! ### storing an answer -/
theorem not_io {i : Nat} (h : io.contains i = false) : i ∉ io := by simpa using h
/-- an answer stands in a slot from now on -/
theorem Ps.store {r : R} {v : V} {fp : List Addr} {i : Nat} {s : MP.Slot} (p : Ps K B H T fps σ r e1 v H1 T1 fps1 fp) (hs : r.keep = some s ∨ r.slot = some s) (hi : i ∉ io) : ∃ T2 fps2, Fm K H1 T2 B fps2 (σ.set i (some v)) (e1.set i s) ∧ Sx io B H T fps H1 T2 fps2 := by
  have byVal : ∀ {d : D}, r.val = some d → s = .v d → ∃ T2 fps2, Fm K H1 T2 B fps2 (σ.set i (some v)) (e1.set i s) ∧ Sx io B H T fps H1 T2 fps2 := fun {d} hv es => by
    obtain ⟨T2, x2, f2, r2⟩ := p.freeze hv
    obtain ⟨fps3, f3, x3, _⟩ := f2.put (i := i) r2
    rw [es]
    exact ⟨T2, fps3, f3, (x2.trans x3).sx⟩
  have byB : ∀ {d : D}, r = .bor d → immut d = false → s = .b d → ∃ T2 fps2, Fm K H1 T2 B fps2 (σ.set i (some v)) (e1.set i s) ∧ Sx io B H T fps H1 T2 fps2 := fun {d} er hd es => by
    subst er es
    by_cases hl : i < e1.length
    · refine ⟨T1, fpSet fps1 i [], p.fm.set hl (by simp) (fun j hj => by rw [List.getElem?_set_ne (Ne.symm hj)]) ⟨rfl, v, ?_, p.rr.2⟩ List.nodup_nil (fun _ z => nomatch z) (fun _ z => nomatch z) (fun _ z => nomatch z), (p.ext.trans (Ext.own (i := i) (fp := []) (fun _ z => nomatch z))).sx⟩
      rw [List.getElem?_set_self (by rw [p.fm.len]; exact hl)]
    · rw [set_out hl, set_out (by rw [p.fm.len]; exact hl)]
      exact ⟨T1, fps1, p.fm, p.ext.sx⟩
  cases r with
  | st d => rcases hs with hs | hs <;> (cases hs; exact byVal rfl rfl)
  | bor d =>
    have hs : (if immut d = true then some (MP.Slot.v d) else some (.b d)) = some s := by rcases hs with hs | hs <;> exact hs
    split at hs
    · rename_i h
      cases hs
      exact byVal (by show (if immut d = true then some d else none) = some d; rw [if_pos h]) rfl
    · rename_i h
      cases hs
      exact byB rfl (by simpa using h) rfl
  | own xs => rcases hs with hs | hs <;> cases hs
  | own2 xss => rcases hs with hs | hs <;> cases hs
  | fr xs =>
    rcases hs with hs | hs
    · cases hs; exact byVal rfl rfl
    · cases hs
      obtain ⟨a, vs, rfl, rfl, h1, h2⟩ := p.rr
      have nw := p.nw a List.mem_cons_self
      by_cases hl : i < e1.length
      · refine ⟨T1, fpSet fps1 i [a], p.fm.set hl (by simp) (fun j hj => by rw [List.getElem?_set_ne (Ne.symm hj)]) ⟨a, vs, ?_, rfl, h1, h2⟩ (by simp) (fun b hb => ?_) (fun b hb => ?_) (fun b hb j _ => ?_), ?_⟩
        · rw [List.getElem?_set_self (by rw [p.fm.len]; exact hl)]
        · obtain rfl : b = a := by simpa using hb
          exact nw.2.1
        · obtain rfl : b = a := by simpa using hb
          exact nw.2.2.2
        · obtain rfl : b = a := by simpa using hb
          exact nw.2.2.1 j
        · have x := p.ext
          have key : ∀ b j, b ∈ fpSet fps1 i [a] j → (j ≠ i ∧ b ∈ fps1 j) ∨ (j = i ∧ H b = none) := fun b j h => by
            by_cases hj : j = i
            · subst hj
              rw [fpSet_same] at h
              obtain rfl : b = a := by simpa using h
              exact .inr ⟨rfl, nw.1⟩
            · rw [fpSet_ne hj] at h; exact .inl ⟨hj, h⟩
          refine ⟨{ x.weak with nF := fun b j h => ?_ }, fun b j hj h => ?_, fun b j hj h => ?_⟩
          · rcases key b j h with ⟨_, q⟩ | ⟨_, q⟩
            · exact (x.nF b j q).imp (fun z => ⟨j, z⟩) id
            · exact .inr q
          · rcases key b j h with ⟨_, q⟩ | ⟨q, _⟩
            · exact x.nF b j q
            · exact absurd (by rw [← q]; exact hj) hi
          · rcases key b j h with ⟨_, q⟩ | ⟨_, q⟩
            · exact (x.nF b j q).imp (fun z => ⟨j, hj, z⟩) id
            · exact .inr q
      · rw [set_out hl, set_out (by rw [p.fm.len]; exact hl)]
        exact ⟨T1, fps1, p.fm, p.ext.sx⟩
theorem lcl_of {N : List Str} {sc : Scope} {i : Nat} {x : Str} (h : lcl N sc i x = true) : N[i]? = some x ∧ Loc sc x := by
  unfold lcl at h
  rw [Bool.and_eq_true, decide_eq_true_eq] at h
  exact ⟨h.1, sto_of h.2⟩
theorem Gs.sto {X : Cx} {W : WX} (G : Gs X call XR W n) (x : Str) (h : isSto X.env.scope x = true) : Sto X x := ⟨sto_of h, .inl (G.fn x)⟩
/-- name = value, the value a comprehension or not -/
theorem ps_name {X : Cx} {W : WX} (G : Gs X call XR W n) {i : Nat} {y : Str} {py pos : Pos} {z : Expr} {m : Ex} (hl : lcl X.N X.env.scope i y = true) (hz : (isComps m || !isComp z) = true) (ht : tr X.N m X.env.scope z = true)
    (hm : EvP call XR n m) (hcp : ∀ t it c a, m = .comp t it c a → EvIP call XR n it ∧ EvP call XR n c ∧ EvP call XR n a) : PS X (.Assign [.Name y py] z pos) (fun D σ H => rdE X.K XR W (ev call m) σ H fun v H1 => D.nx (σ.set i (some v)) H1) := by
  obtain ⟨h1, h2⟩ := lcl_of hl
  cases hk : isComp z with
  | false => exact PS.imp (ps_set G.g.nd h1 h2 (hm.pe G.g ht) (swaps_none hk) (.inl (G.fn _))) fun D σ H q => q
  | true =>
    rw [hk] at hz
    have : ∃ t it c a, m = .comp t it c a := by
      cases m <;> first | (cases hz; done) | exact ⟨_, _, _, _, rfl⟩
    obtain ⟨t, it, c, a, rfl⟩ := this
    obtain ⟨hi, hc, ha⟩ := hcp t it c a rfl
    obtain ⟨e0, w, x, cs, scope, p, rfl, pi, ok, pg, pt, pe, pz, rd⟩ := comp_parts hi hc ha G.g (W := W) ht
    have hsw : ∃ b : Bool, swapsWith (.ListComp e0 [⟨w, x, cs, 0⟩] scope p) (some (.Name y py)) pos.line X.env = pure b ∧ (b = true → X.env.scope.names.lookup y = some .local) := by
      refine ⟨_, rfl, fun q => ?_⟩
      simp only [Bool.and_eq_true] at q
      exact eq_of_beq q.1.1.2
    obtain ⟨b, hb, hloc⟩ := hsw
    cases b with
    | true => exact PS.imp (ps_setLc G.g.calm G.g.nd h1 (hloc rfl) hb pi ok pg pt pe (plainX_fold pz _)) fun D σ H q => rd σ H _ q
    | false => exact PS.imp (ps_set G.g.nd h1 h2 (hm.pe G.g ht) hb (.inl (G.fn _))) fun D σ H q => q
theorem ex_asg (i : Nat) (ha : EvP call XR n a) (hcp : ∀ t it c b, a = .comp t it c b → EvIP call XR n it ∧ EvP call XR n c ∧ EvP call XR n b) : ExP call XR n io (.asg i a) := fun X W G st ht => by
  unfold trS at ht
  split at ht
  · simp only [Bool.and_eq_true] at ht
    obtain ⟨⟨t1, t2⟩, t3⟩ := ht
    refine PS.imp (ps_name G t1 t2 t3 ha hcp) fun D σ H ⟨T, B, fps, e, f, q⟩ => ?_
    have q : OutOk (exec call io (.asg i a) e) _ _ := q
    unfold exec at q
    cases hio : io.contains i with
    | true => rw [hio] at q; exact q.elim
    | false =>
      rw [hio, if_neg Bool.false_ne_true] at q
      refine ⟨T, B, fps, e, f, (OutOk.bind q).mono (fun r e1 q v H1 T1 fps1 fp p => ?_) fun _ _ q => eArmS.toE q⟩
      obtain ⟨s, hs, q⟩ := q.of_liftB
      obtain ⟨T2, fps2, f2, x2⟩ := p.store (.inl hs) (not_io hio)
      exact q _ H1 T2 fps2 x2 f2 (.set (not_io hio))
  · cases ht
end
end MP
end

section
set_option autoImplicit false
set_option linter.all false
set_option maxRecDepth 100000
/-! Soundness of statements, 2: stores, returns. -/
namespace MP
open PySem PySem.Spec PyProof.Rows L2

section
variable {K : PySem.W.Frag} {XR : XRel} {W : WX} {io : List Nat} {B T T1 T2 : Addr → Prop} {H H1 H2 : Hp} {fps fps1 fps2 : Nat → List Addr} {σ σ1 : L2.St} {e e1 : Env}
theorem set_slot_self {e : Env} {j : Nat} {s : MP.Slot} (h : slot e j = s) (hj : j < e.length) : e.set j s = e := by
  rw [← h]
  unfold slot
  rw [List.getElem?_eq_getElem hj]
  exact List.set_getElem_self hj
theorem Fm.putB (f : Fm K H T B fps σ e) {i : Nat} {x : V} {d : D} (r : Rq K H (TB T B) True x d) : ∃ fps', Fm K H T B fps' (σ.set i (some x)) (e.set i (.b d)) ∧ Ext B H T fps H T fps' := by
  by_cases hi : i < e.length
  · refine ⟨fpSet fps i [], f.set hi (by simp) (fun j hj => by rw [List.getElem?_set_ne (Ne.symm hj)]) ⟨rfl, x, ?_, r⟩ List.nodup_nil (fun _ z => nomatch z) (fun _ z => nomatch z) (fun _ z => nomatch z), Ext.own (fun _ z => nomatch z)⟩
    rw [List.getElem?_set_self (by rw [f.len]; exact hi)]
  · rw [set_out hi, set_out (by rw [f.len]; exact hi)]
    exact ⟨fps, f, .refl⟩
/-- a name's list is another's now -/
theorem Fm.move (f : Fm K H T B fps σ e) {i j : Nat} {p : MP.Slot × MP.Slot} (h : moveOf (slot e j) = some p) (hi : i ∉ io) (hj : j ∉ io) : ∃ v, σ[j]? = some (some v) ∧ ∃ fps', Fm K H T B fps' (σ.set i (some v)) ((e.set j p.1).set i p.2) ∧ Sx io B H T fps H T fps' := by
  cases hs : slot e j with
  | u => rw [hs] at h; cases h
  | ol2 xss => rw [hs] at h; cases h
  | v d =>
    rw [hs] at h; cases h
    have hl := f.lt_of (i := j) (by rw [hs]; exact fun z => nomatch z)
    have q := f.sl j
    rw [hs] at q
    obtain ⟨_, x, hx, r⟩ := q
    obtain ⟨fps', f', x', _⟩ := f.put (i := i) r
    rw [set_slot_self hs hl]
    exact ⟨x, hx, fps', f', x'.sx⟩
  | b d =>
    rw [hs] at h; cases h
    have hl := f.lt_of (i := j) (by rw [hs]; exact fun z => nomatch z)
    have q := f.sl j
    rw [hs] at q
    obtain ⟨_, x, hx, r⟩ := q
    obtain ⟨fps', f', x'⟩ := f.putB (i := i) r
    rw [set_slot_self hs hl]
    exact ⟨x, hx, fps', f', x'.sx⟩
  | ol xs =>
    rw [hs] at h; cases h
    obtain ⟨a, vs, hv, hf, hH, ra, hl⟩ := f.ol hs
    obtain ⟨fu, xu⟩ := f.hide hl
    have haj : a ∈ fps j := by rw [hf]; exact List.mem_cons_self
    refine ⟨_, hv, ?_⟩
    by_cases hil : i < e.length
    · refine ⟨fpSet (fpSet fps j []) i [a], fu.set (by rw [List.length_set]; exact hil) (by simp) (fun k hk => by rw [List.getElem?_set_ne (Ne.symm hk)]) ⟨a, vs, ?_, rfl, hH, ra⟩ (by simp) (fun b hb => ?_) (fun b hb => ?_) (fun b hb k _ z => ?_), ?_⟩
      · rw [List.getElem?_set_self (by rw [f.len]; exact hil)]
      · obtain rfl : b = a := by simpa using hb
        exact f.dT j b haj
      · obtain rfl : b = a := by simpa using hb
        exact f.dB j b haj
      · obtain rfl : b = a := by simpa using hb
        exact (fpSet_nil_mem z).1 (f.dj k j b (fpSet_nil_mem z).2 haj)
      · have key : ∀ b k, b ∈ fpSet (fpSet fps j []) i [a] k → (k ≠ i ∧ b ∈ fps k) ∨ (k = i ∧ b = a) := fun b k h => by
          by_cases hk : k = i
          · subst hk; rw [fpSet_same] at h; exact .inr ⟨rfl, by simpa using h⟩
          · rw [fpSet_ne hk] at h; exact .inl ⟨hk, (fpSet_nil_mem h).2⟩
        refine ⟨⟨fun _ h => h, fun _ _ h _ => h, fun _ _ _ h => h, fun _ _ _ h => h, fun _ h => .inl h, fun b k h => ?_, fun _ h => h⟩, fun b k hk h => ?_, fun b k hk h => ?_⟩
        · rcases key b k h with ⟨_, q⟩ | ⟨_, q⟩
          · exact .inl ⟨k, q⟩
          · exact .inl ⟨j, by rw [q]; exact haj⟩
        · rcases key b k h with ⟨_, q⟩ | ⟨q, _⟩
          · exact .inl q
          · exact absurd (by rw [← q]; exact hk) hi
        · rcases key b k h with ⟨_, q⟩ | ⟨_, q⟩
          · exact .inl ⟨k, hk, q⟩
          · exact .inl ⟨j, hj, by rw [q]; exact haj⟩
    · rw [set_out (e := σ) (by rw [f.len]; exact hil), set_out (e := e.set j .u) (by rw [List.length_set]; exact hil)]
      exact ⟨_, fu, xu.sx⟩
variable {call : CallF} {n : Nat} {a b c : Ex}
theorem ex_asgO (i : Nat) (ha : EvP call XR n a) (hcp : ∀ t it c b, a = .comp t it c b → EvIP call XR n it ∧ EvP call XR n c ∧ EvP call XR n b) : ExP call XR n io (.asgO i a) := fun X W G st ht => by
  unfold trS at ht
  split at ht
  · rename_i y py z pos
    simp only [Bool.and_eq_true] at ht
    obtain ⟨⟨t1, t2⟩, t3⟩ := ht
    by_cases hpk : ∃ j, a = .pk j
    · obtain ⟨j, rfl⟩ := hpk
      unfold tr at t3
      split at t3
      · obtain ⟨h1, h2⟩ := lcl_of t1
        refine PS.imp (ps_set G.g.nd h1 h2 (pe_name t3) (swaps_none rfl) (.inl (G.fn _))) fun D σ H ⟨T, B, fps, e, f, q⟩ => ?_
        have q : OutOk (exec call io (.asgO i (.pk j)) e) _ _ := q
        unfold exec at q
        cases hio : io.contains i with
        | true => rw [hio] at q; exact q.elim
        | false =>
          rw [hio, if_neg Bool.false_ne_true] at q
          cases hjo : io.contains j with
          | true => simp only [hjo, if_true] at q; exact q.elim
          | false =>
            simp only [hjo, Bool.false_eq_true, if_false] at q
            obtain ⟨p, hp, q⟩ := OutOk.of_liftB q
            obtain ⟨v, hv, fps', f', x'⟩ := f.move (i := i) hp (not_io hio) (not_io hjo)
            exact ⟨v, hv, q _ H T fps' x' f' (.set (not_io hio))⟩
      · cases t3
    · refine PS.imp (ps_name G t1 t2 t3 ha hcp) fun D σ H ⟨T, B, fps, e, f, q⟩ => ?_
      have he : exec call io (.asgO i a) e = if io.contains i = true then .bad else (ev call a e).bind fun r e1 => (lift e1 r.slot).bind fun s e1 => .ok .nx (e1.set i s) := by
        cases a <;> first | rfl | exact absurd ⟨_, rfl⟩ hpk
      rw [he] at q
      cases hio : io.contains i with
      | true => rw [hio] at q; exact q.elim
      | false =>
        rw [hio, if_neg Bool.false_ne_true] at q
        refine ⟨T, B, fps, e, f, (OutOk.bind q).mono (fun r e1 q v H1 T1 fps1 fp p => ?_) fun _ _ q => eArmS.toE q⟩
        obtain ⟨s, hs, q⟩ := q.of_liftB
        obtain ⟨T2, fps2, f2, x2⟩ := p.store (.inr hs) (not_io hio)
        exact q _ H1 T2 fps2 x2 f2 (.set (not_io hio))
  · cases ht
theorem tgOk_cons {N : List Str} {sc : Str → Bool} {is : List Nat} {x : Str} {p : Pos} {xs : List Expr} (h : tgOk N sc is (.Name x p :: xs) = true) : ∃ i js, is = i :: js ∧ N[i]? = some x ∧ tgOk N sc js xs = true := by
  cases is with
  | nil => cases h
  | cons i js =>
    simp only [tgOk, Bool.and_eq_true, decide_eq_true_eq] at h
    exact ⟨i, js, rfl, h.1.1, h.2⟩
theorem tgOk_nil {N : List Str} {sc : Str → Bool} {is : List Nat} (h : tgOk N sc is [] = true) : is = [] := by
  cases is with
  | nil => rfl
  | cons _ _ => cases h
theorem block_fn {X : Cx} (hk : X.env.scope.kind = .function) : X.env.blockKind = .function := by
  unfold Env.blockKind; rw [hk]; rfl
theorem name_ne {N : List Str} {i j : Nat} {x y : Str} (h : (x == y) = false) (hi : N[i]? = some x) (hj : N[j]? = some y) : i ≠ j := fun z => by
  subst z
  rw [hi] at hj
  cases hj
  simp at h
theorem swapped2 {env : PySem.Env} {x y : Str} {px py pt pt2 : Pos} {kt k2 : Nat} {a b : Expr} (hb : env.blockKind = .function) (hx : env.scope.names.lookup x = some .local) (hy : env.scope.names.lookup y = some .local) (hl : (px.line == py.line) = true) (hne : (x == y) = false)
    (pa : plainX a = true) (pb : plainX b = true) (f1 : [a, b].all (foldedForSure 8) = false) (f2 : [a, b].all (constantsAlone 8) = false) : swappedStores [.Tuple [.Name x px, .Name y py] kt pt] (.Tuple [a, b] k2 pt2) env = pure (some [x, y]) := by
  have kx : env.kindOf x = some .local := hx
  have ky : env.kindOf y = some .local := hy
  have el : px.line = py.line := eq_of_beq hl
  have hd : [x, y].eraseDups = [x, y] := by
    have : (y == x) = false := by rw [beq_eq_false_iff_ne] at hne ⊢; exact Ne.symm hne
    simp [List.eraseDups_cons, this]
  unfold swappedStores
  dsimp only
  rw [if_neg (by simp [hb])]
  rw [if_neg (by
    rw [List.any_cons, List.any_cons, List.any_nil, Bool.or_false, Bool.or_eq_true]
    rintro (h | h)
    · cases a <;> first | (cases pa; done) | (cases h; done)
    · cases b <;> first | (cases pb; done) | (cases h; done))]
  have fm : ∀ (F : Expr → Option Str), F (.Name x px) = some x → F (.Name y py) = some y → [Expr.Name x px, Expr.Name y py].filterMap F = [x, y] := fun F h1 h2 => by
    rw [List.filterMap_cons, h1]
    simp only []
    rw [List.filterMap_cons, h2]; rfl
  rw [fm _ (by simp [kx, Expr.pos]) (by simp [ky, Expr.pos, el])]
  rw [if_neg (by simp [hd]), if_neg (by rw [f1]; decide), if_neg (by rw [f2]; decide)]
theorem swapped3 {env : PySem.Env} {x y z : Str} {px py pz pt pt2 : Pos} {kt k2 : Nat} {a b c : Expr} (hb : env.blockKind = .function) (hx : env.scope.names.lookup x = some .local) (hy : env.scope.names.lookup y = some .local) (hz : env.scope.names.lookup z = some .local) (hl : (px.line == py.line) = true) (hl2 : (px.line == pz.line) = true) (hne : (x == y) = false) (hne2 : (x == z) = false) (hne3 : (y == z) = false)
    (pa : plainX a = true) (pb : plainX b = true) (pc : plainX c = true) (f1 : [a, b, c].all (foldedForSure 8) = false) (f2 : [a, b, c].all (constantsAlone 8) = false) : swappedStores [.Tuple [.Name x px, .Name y py, .Name z pz] kt pt] (.Tuple [a, b, c] k2 pt2) env = pure (some [x, y, z]) := by
  have kx : env.kindOf x = some .local := hx
  have ky : env.kindOf y = some .local := hy
  have kz : env.kindOf z = some .local := hz
  have el : px.line = py.line := eq_of_beq hl
  have el2 : px.line = pz.line := eq_of_beq hl2
  have hd : [x, y, z].eraseDups = [x, y, z] := by
    have h1 : (y == x) = false := by rw [beq_eq_false_iff_ne] at hne ⊢; exact Ne.symm hne
    have h2 : (z == x) = false := by rw [beq_eq_false_iff_ne] at hne2 ⊢; exact Ne.symm hne2
    have h3 : (z == y) = false := by rw [beq_eq_false_iff_ne] at hne3 ⊢; exact Ne.symm hne3
    simp [List.eraseDups_cons, h1, h2, h3]
  unfold swappedStores
  dsimp only
  rw [if_neg (by simp [hb])]
  rw [if_neg (by
    rw [List.any_cons, List.any_cons, List.any_cons, List.any_nil, Bool.or_false, Bool.or_eq_true, Bool.or_eq_true]
    rintro (h | h | h)
    · cases a <;> first | (cases pa; done) | (cases h; done)
    · cases b <;> first | (cases pb; done) | (cases h; done)
    · cases c <;> first | (cases pc; done) | (cases h; done))]
  have fm : ∀ (F : Expr → Option Str), F (.Name x px) = some x → F (.Name y py) = some y → F (.Name z pz) = some z → [Expr.Name x px, Expr.Name y py, Expr.Name z pz].filterMap F = [x, y, z] := fun F h1 h2 h3 => by
    rw [List.filterMap_cons, h1]
    simp only []
    rw [List.filterMap_cons, h2]
    simp only []
    rw [List.filterMap_cons, h3]; rfl
  rw [fm _ (by simp [kx, Expr.pos]) (by simp [ky, Expr.pos, el]) (by simp [kz, Expr.pos, el2])]
  rw [if_neg (by simp [hd]), if_neg (by rw [f1]; decide), if_neg (by rw [f2]; decide)]
theorem swaps_sole {e t : Expr} {l : Nat} {env : PySem.Env} (h : isComp e = false) : swapsWithSole [t] e l env = pure false := swaps_none h
theorem ex_asgT (is : List Nat) (ha : EvP call XR n a) (hts : ∀ es, a = .tup es → EvsP call XR n es) : ExP call XR n io (.asgT is a) := fun X W G st ht => by
  unfold trS at ht
  split at ht
  · rename_i ts kt pt z pos
    simp only [Bool.and_eq_true, Bool.not_eq_true'] at ht
    obtain ⟨⟨⟨t1, t2⟩, t3⟩, t4⟩ := ht
    have inv : ∀ {D : Ends} {σ : L2.St} {H : Hp} {T B : Addr → Prop} {fps : Nat → List Addr} {e : Env}, OutOk (exec call io (.asgT is a) e) (flOk X.K io D B H T fps σ) (eArmS X.K XR W io B H T fps σ) → (∀ i ∈ is, i ∉ io) ∧
        OutOk (valOf (ev call a e)) (fun d e1 => ∃ ds e2, d = .tuple ds ∧ setAll e1 is ds = some e2 ∧ flOk X.K io D B H T fps σ .nx e2) (eArmS X.K XR W io B H T fps σ) := fun {D σ H T B fps e} q => by
      unfold exec at q
      cases hio : is.any io.contains with
      | true => rw [hio] at q; exact q.elim
      | false =>
        rw [hio, if_neg Bool.false_ne_true] at q
        refine ⟨fun i hi => not_io (by have := List.any_eq_false.mp hio i hi; simpa using this), (OutOk.bind q).mono (fun d e1 q => ?_) fun _ _ q => q⟩
        obtain ⟨ds, hd, q⟩ := q.of_liftB
        obtain ⟨e2, h2, q⟩ := q.of_liftB
        exact ⟨ds, e2, tup?_some hd, h2, q⟩
    by_cases htup : ∃ es, a = .tup es
    · obtain ⟨es, rfl⟩ := htup
      have hes := hts es rfl
      have put : ∀ {D : Ends} {σ : L2.St} {H : Hp} {T B : Addr → Prop} {fps : Nat → List Addr} {e : Env}, OutOk (exec call io (.asgT is (.tup es)) e) (flOk X.K io D B H T fps σ) (eArmS X.K XR W io B H T fps σ) → (∀ i ∈ is, i ∉ io) ∧
          OutOk (evs call es e) (fun ds e1 => ∃ e2, setAll e1 is ds = some e2 ∧ flOk X.K io D B H T fps σ .nx e2) (eArmS X.K XR W io B H T fps σ) := fun {D σ H T B fps e} q => by
        obtain ⟨h1, h2⟩ := inv q
        refine ⟨h1, (OutOk.bind (OutOk.bind h2)).mono (fun ds e1 q => ?_) fun _ _ q => q⟩
        obtain ⟨_, q⟩ := OutOk.of_ifP q
        obtain ⟨ds', e2, he, hs, q⟩ := q
        cases he
        exact ⟨e2, hs, q⟩
      dsimp only at t4
      split at t4
      · rename_i y1 p1 y2 p2 u1 u2 k2 pt2
        simp only [Bool.and_eq_true] at t4
        obtain ⟨⟨⟨l1, l2⟩, sw⟩, tt⟩ := t4
        have hli := loc_of l1
        have hlj := loc_of l2
        obtain ⟨i, js, rfl, hi, t1⟩ := tgOk_cons t1
        obtain ⟨j, ks, rfl, hj, t1⟩ := tgOk_cons t1
        obtain rfl := tgOk_nil t1
        simp only [swOk2, Bool.and_eq_true, Bool.not_eq_true'] at sw
        obtain ⟨⟨⟨⟨⟨s1, s2⟩, s3⟩, s4⟩, s5⟩, s6⟩ := sw
        have hij := name_ne s2 hi hj
        refine PS.imp (ps_par G.g.calm G.g.nd hi hj hij hli hlj (hes X W G.g _ tt) (swapped2 (block_fn G.kind) hli hlj s1 s2 s3 s4 s5 s6) rfl) fun D σ H ⟨T, B, fps, e, f, q⟩ => ?_
        obtain ⟨hio, q⟩ := put q
        refine ⟨T, B, fps, e, f, q.mono (fun ds e1 q vs H1 T1 fps1 x1 f1 r1 => ?_) fun _ _ q => eArmS.toE q⟩
        obtain ⟨e2, hs, q⟩ := q
        cases ds with
        | nil => cases hs
        | cons d1 ds =>
          cases ds with
          | nil => cases hs
          | cons d2 ds =>
            cases ds with
            | cons _ _ => cases hs
            | nil =>
              cases hs
              cases r1 with
              | cons r1 r2 =>
                cases r2 with
                | cons r2 r3 =>
                  cases r3
                  obtain ⟨fps2, f2, x2, _⟩ := f1.put (i := i) r1
                  obtain ⟨fps3, f3, x3, _⟩ := f2.put (i := j) r2
                  exact ⟨_, _, rfl, q _ H1 T1 fps3 ((x1.trans x2).trans x3).sx f3 ((Same.set (hio i (by simp))).trans (.set (hio j (by simp))))⟩
      · rename_i y1 p1 y2 p2 y3 p3 u1 u2 u3 k2 pt2
        simp only [Bool.and_eq_true] at t4
        obtain ⟨⟨⟨⟨l1, l2⟩, l3⟩, sw⟩, tt⟩ := t4
        have hli := loc_of l1
        have hlj := loc_of l2
        have hll := loc_of l3
        obtain ⟨i, js, rfl, hi, t1⟩ := tgOk_cons t1
        obtain ⟨j, ks, rfl, hj, t1⟩ := tgOk_cons t1
        obtain ⟨l, ls, rfl, hl, t1⟩ := tgOk_cons t1
        obtain rfl := tgOk_nil t1
        simp only [swOk3, Bool.and_eq_true, Bool.not_eq_true'] at sw
        obtain ⟨⟨⟨⟨⟨⟨⟨⟨⟨s1, s2⟩, s3⟩, s4⟩, s5⟩, s6⟩, s7⟩, s8⟩, s9⟩, s10⟩ := sw
        refine PS.imp (ps_par3 G.g.calm G.g.nd hi hj hl (name_ne s3 hi hj) (name_ne s4 hi hl) (name_ne s5 hj hl) hli hlj hll (hes X W G.g _ tt) (swapped3 (block_fn G.kind) hli hlj hll s1 s2 s3 s4 s5 s6 s7 s8 s9 s10) rfl) fun D σ H ⟨T, B, fps, e, f, q⟩ => ?_
        obtain ⟨hio, q⟩ := put q
        refine ⟨T, B, fps, e, f, q.mono (fun ds e1 q vs H1 T1 fps1 x1 f1 r1 => ?_) fun _ _ q => eArmS.toE q⟩
        obtain ⟨e2, hs, q⟩ := q
        cases ds with
        | nil => cases hs
        | cons d1 ds =>
          cases ds with
          | nil => cases hs
          | cons d2 ds =>
            cases ds with
            | nil => cases hs
            | cons d3 ds =>
              cases ds with
              | cons _ _ => cases hs
              | nil =>
                cases hs
                cases r1 with
                | cons r1 r2 =>
                  cases r2 with
                  | cons r2 r3 =>
                    cases r3 with
                    | cons r3 r4 =>
                      cases r4
                      obtain ⟨fps2, f2, x2, _⟩ := f1.put (i := i) r1
                      obtain ⟨fps3, f3, x3, _⟩ := f2.put (i := j) r2
                      obtain ⟨fps4, f4, x4, _⟩ := f3.put (i := l) r3
                      exact ⟨_, _, _, rfl, q _ H1 T1 fps4 (((x1.trans x2).trans x3).trans x4).sx f4 (((Same.set (hio i (by simp))).trans (.set (hio j (by simp)))).trans (.set (hio l (by simp))))⟩
      · cases t4
    · have hz : isTupE z = false := by
        revert t4
        cases a <;> first | (exact fun h => by simpa using h) | exact absurd ⟨_, rfl⟩ htup
      refine PS.imp (ps_asg (ha.pv G.g t3) (pg_of (t := .tup is) G.sto G.g.calm G.g.nd t1) (swaps_sole t2) (by cases z <;> first | rfl | (cases hz; done)) rfl) fun D σ H ⟨T, B, fps, e, f, q⟩ => ?_
      obtain ⟨hio, q⟩ := inv q
      refine ⟨T, B, fps, e, f, q.mono (fun d e1 q v H1 T1 fps1 x1 f1 r1 => ?_) fun _ _ q => eArmS.toE q⟩
      obtain ⟨ds, e2, rfl, hs, q⟩ := q
      refine gTg_ok (t := .tup is) (pr := false) (d := .tuple ds) (e2 := e2) hs r1 (fun z => nomatch z) f1 fun σ2 fps2 f2 x2 _ j2 _ => ?_
      exact q _ H1 T1 fps2 (x1.trans x2).sx f2 fun k hk => j2 k fun z => hio k z hk
  · cases ht
/-! ### stores into own lists -/
theorem plainX_asg {o i : Expr} {pos : Pos} {env : PySem.Env} (h : plainX i = true) (v : Value) : assign (.Subscript o i pos) env v = (do
      let ov ← holding [v] (eval o env)
      let iv ← holding [v, ov] (eval i env)
      standAt pos
      holding [v, ov, iv] (setItem ov iv v)
      release [v, ov, iv] []) := by
  cases i <;> first | (cases h; done) | rfl
theorem plainX_aug {i : Expr} (h : plainX i = true) (ov iv new : Value) : augStore i ov iv new = (do holding [new, ov, iv] (setItem ov iv new); release [new, ov, iv] []; pure .next) := by
  cases i <;> first | (cases h; done) | rfl
theorem swapped_sub {o i e : Expr} {pos : Pos} {env : PySem.Env} : swappedStores [.Subscript o i pos] e env = pure none := by
  cases e <;> rfl
theorem ex_asgI (i : Nat) (ha : EvP call XR n a) (hb : EvP call XR n b) : ExP call XR n io (.asgI i a b) := fun X W G st ht => by
  unfold trS at ht
  split at ht
  · simp only [Bool.and_eq_true, Bool.not_eq_true'] at ht
    obtain ⟨⟨⟨hn, t1⟩, t2⟩, t3⟩ := ht
    refine PS.imp (ps_asg (hb.pv G.g t3) (pg_sub (pe_name hn) (ha.pi G.g t2) set_list (plainX_asg (tr_plainX t2))) (swaps_sole t1) swapped_sub rfl) fun D σ H ⟨T, B, fps, e, f, q⟩ => ?_
    refine ⟨T, B, fps, e, f, (OutOk.bind q).mono (fun d e1 q v H1 T1 fps1 x1 f1 r1 => ?_) fun _ _ q => eArmS.toE q⟩
    obtain ⟨r0, hr0, q⟩ := q.of_liftB
    obtain ⟨w, hw, _⟩ := f1.look hr0
    refine ⟨w, hw, T1, B, fps1, e1, f1, (OutOk.bind q).mono (fun z e2 q H2 T2 fps2 x2 f2 => ?_) fun _ _ q => (eArmS.toE q).trans x1⟩
    obtain ⟨s, hs, q⟩ := q.of_liftB
    cases he : slot e2 i <;> rw [he] at hs <;> first | (cases hs; done) | skip
    rename_i xs
    obtain ⟨j, hj, rfl⟩ := Option.map_eq_some_iff.mp (show (ixN xs.length z).map _ = some s from hs)
    obtain ⟨a, vs, hv, hf, hH, ra, hi⟩ := f2.ol he
    rw [hw] at hv; cases hv
    obtain ⟨fps3, f3, x3⟩ := f2.wrOl hw hf hH hi (ra.set (r1.keep x2.kept) j)
    exact ⟨a, vs, z, j, rfl, rfl, hH, by rw [ra.length]; exact hj, q σ _ T2 fps3 ((x1.trans x2).trans x3).sx f3 .refl⟩
  · cases ht
def augF : BOp → Int → Int → Int
  | .add, i, j => i + j
  | _, i, j => i - j
theorem aug_ok {X : Cx} {o : BOp} (h : augOp o = true) : PIp X (bopOf o) (ipI (augF o)) := by
  cases o <;> first | (cases h; done) | exact ip_add | exact ip_sub
theorem aug_bin {o : BOp} {m k v : Int} {r : R} (h : augOp o = true) (hr : bin o (.int m) (.int k) = some r) (hv : stInt r = some v) : v = augF o m k := by
  cases o <;> first | (cases h; done) | (cases hr; cases hv; rfl)
theorem ex_aug (i : Nat) (o : BOp) (ha : EvP call XR n a) : ExP call XR n io (.aug i o a) := fun X W G st ht => by
  unfold trS at ht
  split at ht
  · simp only [Bool.and_eq_true, decide_eq_true_eq] at ht
    obtain ⟨⟨⟨t1, t2⟩, rfl⟩, t3⟩ := ht
    obtain ⟨h1, h2⟩ := lcl_of t1
    refine PS.imp (ps_aug G.g.nd h1 h2 (ha.pi G.g t3) (aug_ok t2) (.inl (G.fn _))) fun D σ H ⟨T, B, fps, e, f, q⟩ => ?_
    have q : OutOk (exec call io (.aug i o a) e) _ _ := q
    unfold exec at q
    cases hio : io.contains i with
    | true => rw [hio] at q; exact q.elim
    | false =>
      rw [hio, if_neg Bool.false_ne_true] at q
      obtain ⟨m, hm, q⟩ := OutOk.of_liftB q
      cases he : slot e i <;> rw [he] at hm <;> first | (cases hm; done) | skip
      rename_i d
      cases d <;> first | (cases hm; done) | skip
      cases hm
      have hs := f.sl i
      rw [he] at hs
      obtain ⟨_, x, hx, rx⟩ := hs
      cases rx
      refine ⟨_, hx, T, B, fps, e, f, (OutOk.bind q).mono (fun k e1 q H1 T1 fps1 x1 f1 => ?_) fun _ _ q => eArmS.toE q⟩
      obtain ⟨r, hr, q⟩ := q.of_liftB
      obtain ⟨v, hv, q⟩ := q.of_liftB
      obtain rfl := aug_bin t2 hr hv
      obtain ⟨fps2, f2, x2, _⟩ := f1.put (i := i) (Rq.int (augF o _ k))
      exact ⟨_, _, rfl, rfl, q _ H1 T1 fps2 (x1.trans x2).sx f2 (.set (not_io hio))⟩
  · cases ht
def rGetL (K : PySem.W.Frag) : V → V → Hp → VK → Prop := fun x y H Q => ∃ p xs i v, x = .ref p ∧ y = .int i ∧ SqL K H p xs ∧ L2.atI xs i = some v ∧ Q v H
theorem get_list {X : Cx} : PGet X (rGetL X.K) := by
  intro pins s σ H x y v u Q I rx ry h
  obtain ⟨p, xs, i, z, rfl, rfl, hq, he, q⟩ := h
  cases rx
  obtain ⟨t, rfl⟩ := ry
  obtain ⟨its, r, pl, hz⟩ := I.list hq
  obtain ⟨j, h1, h2, h3, h4, h5⟩ := atI_get he
  obtain ⟨w, ew, rw'⟩ := r.get h2
  have hl := r.length
  have hn := line63
  have fin : EP X pins σ Q w s := ⟨z, H, I, rw', q⟩
  by_cases h0 : 0 ≤ i
  · have hj : i.toNat = j := by
      rw [seqIndex_of h0 h5] at h1
      exact Option.some.inj h1
    exact wpAny_getItem_list pl.isList h0 (by omega) (by rw [hj]; simpa using ew) fin
  · have hj : (i + (its.toArray.size : Int)).toNat = j := by
      rw [seqIndex_neg (by omega) h4] at h1
      rw [List.size_toArray, ← hl]
      exact Option.some.inj h1
    exact wpAny_getItem_list_neg pl.isList (by omega) (by rw [List.size_toArray] <;> omega) (by omega) (by rw [hj]; simpa using ew) fin
theorem ex_augI (i : Nat) (o : BOp) (ha : EvP call XR n a) (hb : EvP call XR n b) : ExP call XR n io (.augI i a o b) := fun X W G st ht => by
  unfold trS at ht
  split at ht
  · simp only [Bool.and_eq_true, decide_eq_true_eq] at ht
    obtain ⟨⟨⟨⟨hn, t2⟩, rfl⟩, t3⟩, t4⟩ := ht
    refine PS.imp (ps_augS (pe_name hn) (ha.pi G.g t3) get_list (hb.pi G.g t4) (aug_ok t2) set_list (plainX_aug (tr_plainX t3))) fun D σ H ⟨T, B, fps, e, f, q⟩ => ?_
    obtain ⟨r0, hr0, q⟩ := OutOk.of_liftB q
    obtain ⟨v, hv, _⟩ := f.look hr0
    refine ⟨v, hv, T, B, fps, e, f, (OutOk.bind q).mono (fun z e1 q H1 T1 fps1 x1 f1 => ?_) fun _ _ q => eArmS.toE q⟩
    obtain ⟨m, hm, q⟩ := q.of_liftB
    cases he : slot e1 i <;> rw [he] at hm <;> first | (cases hm; done) | skip
    rename_i xs
    obtain ⟨d, hd, hm⟩ := Option.bind_eq_some_iff.mp (show (atI xs z).bind int? = some m from hm)
    cases d <;> first | (cases hm; done) | skip
    cases hm
    obtain ⟨a, vs, hv', hf, hH, ra, hi⟩ := f1.ol he
    rw [hv] at hv'; cases hv'
    obtain ⟨w, hw, rw'⟩ := ra.atI hd
    cases rw'
    refine ⟨a, vs, z, _, rfl, rfl, .inl (.inl hH), hw, T1, B, fps1, e1, f1, (OutOk.bind q).mono (fun k e2 q H2 T2 fps2 x2 f2 => ?_) fun _ _ q => (eArmS.toE q).trans x1⟩
    obtain ⟨r, hr, q⟩ := q.of_liftB
    obtain ⟨v2, hv2, q⟩ := q.of_liftB
    obtain rfl := aug_bin t2 hr hv2
    obtain ⟨s, hs, q⟩ := q.of_liftB
    cases he2 : slot e2 i <;> rw [he2] at hs <;> first | (cases hs; done) | skip
    rename_i ys
    obtain ⟨j, hj, rfl⟩ := Option.map_eq_some_iff.mp (show (ixN ys.length z).map _ = some s from hs)
    obtain ⟨a2, us, hv3, hf2, hH2, ra2, hi2⟩ := f2.ol he2
    rw [hv] at hv3; cases hv3
    obtain ⟨fps3, f3, x3⟩ := f2.wrOl hv hf2 hH2 hi2 (ra2.set (Rq.int (augF o _ k)) j)
    exact ⟨_, _, rfl, rfl, a, us, z, j, rfl, rfl, hH2, by rw [ra2.length]; exact hj, q σ _ T2 fps3 ((x1.trans x2).trans x3).sx f3 .refl⟩
  · cases ht
end
end MP
end

section
set_option autoImplicit false
set_option linter.all false
set_option maxRecDepth 100000
/-! Soundness of statements, 3: return, while, for. -/
namespace MP
open PySem PySem.Spec PyProof.Rows L2

section
variable {K : PySem.W.Frag} {XR : XRel} {W : WX} {io : List Nat} {B T T1 T2 : Addr → Prop} {H H1 H2 : Hp} {fps fps1 fps2 : Nat → List Addr} {σ σ1 : L2.St} {e e1 : Env}
variable {call : CallF} {n : Nat} {a b c : Ex}
theorem ex_ret (ha : EvP call XR n a) : ExP call XR n io (.ret a) := fun X W G st ht => by
  unfold trS at ht
  split at ht
  · by_cases hpk : ∃ j, a = .pk j
    · obtain ⟨j, rfl⟩ := hpk
      unfold tr at ht
      split at ht
      · refine PS.imp (ps_ret (pe_name ht)) fun D σ H ⟨T, B, fps, e, f, q⟩ => ?_
        have q : OutOk (exec call io (.ret (.pk j)) e) _ _ := q
        unfold exec at q
        cases hjo : io.contains j with
        | true => simp only [hjo, if_true] at q; exact q.elim
        | false =>
          simp only [hjo, Bool.false_eq_true, if_false] at q
          obtain ⟨p, hp, q⟩ := OutOk.of_liftB q
          have hj := not_io hjo
          cases hs : slot e j with
          | u => rw [hs] at hp; cases hp
          | ol2 xss => rw [hs] at hp; cases hp
          | v d =>
            rw [hs] at hp; cases hp
            have hl := f.lt_of (i := j) (by rw [hs]; exact fun z => nomatch z)
            have z := f.sl j
            rw [hs] at z
            obtain ⟨_, x, hx, r⟩ := z
            refine ⟨x, hx, q x σ H T fps [] .refl (by rw [set_slot_self hs hl]; exact f) .refl ⟨⟨rfl, r⟩, rfl, List.nodup_nil, fun _ z => nomatch z⟩⟩
          | b d =>
            rw [hs] at hp
            have hp : (if immut d = true then some (R.st d, MP.Slot.b d) else none) = some p := hp
            obtain ⟨hi, rfl⟩ := some_if hp
            have hl := f.lt_of (i := j) (by rw [hs]; exact fun z => nomatch z)
            have z := f.sl j
            rw [hs] at z
            obtain ⟨_, x, hx, r⟩ := z
            refine ⟨x, hx, q x σ H T fps [] .refl (by rw [set_slot_self hs hl]; exact f) .refl ⟨⟨rfl, r.immut hi⟩, rfl, List.nodup_nil, fun _ z => nomatch z⟩⟩
          | ol xs =>
            rw [hs] at hp; cases hp
            obtain ⟨a, vs, hv, hf, hH, ra, hl⟩ := f.ol hs
            obtain ⟨fu, xu⟩ := f.hide hl
            have haj : a ∈ fps j := by rw [hf]; exact List.mem_cons_self
            refine ⟨_, hv, q _ σ H T _ [a] xu.sx fu .refl ⟨⟨a, vs, rfl, rfl, hH, ra⟩, rfl, by simp, fun b hb => ?_⟩⟩
            obtain rfl : b = a := by simpa using hb
            exact ⟨.inr ⟨j, hj, haj⟩, f.dT j b haj, fun k z => (fpSet_nil_mem z).1 (f.dj k j b (fpSet_nil_mem z).2 haj), f.dB j b haj⟩
      · cases ht
    · refine PS.imp (ps_ret (ha.pe G.g ht)) fun D σ H ⟨T, B, fps, e, f, q⟩ => ?_
      have he : exec call io (.ret a) e = (ev call a e).bind fun r e1 => (lift e1 r.ret).bind fun r e1 => .ok (.rt r) e1 := by
        cases a <;> first | rfl | exact absurd ⟨_, rfl⟩ hpk
      rw [he] at q
      refine ⟨T, B, fps, e, f, (OutOk.bind q).mono (fun r e1 q v H1 T1 fps1 fp p => ?_) fun _ _ q => eArmS.toE q⟩
      obtain ⟨r', hr, q⟩ := q.of_liftB
      have nw : ∀ x ∈ fp, (H x = none ∨ ∃ j, j ∉ io ∧ x ∈ fps j) ∧ ¬ T1 x ∧ (∀ i, x ∉ fps1 i) ∧ ¬ B x := fun x hx => ⟨.inl (p.nw x hx).1, (p.nw x hx).2⟩
      cases r with
      | st d => cases hr; exact q v σ H1 T1 fps1 fp p.ext.sx p.fm .refl ⟨p.rr, rfl, p.nd, nw⟩
      | fr xs => cases hr; exact q v σ H1 T1 fps1 fp p.ext.sx p.fm .refl ⟨p.rr, rfl, p.nd, nw⟩
      | own xs => cases hr
      | own2 xss => cases hr
      | bor d =>
        have hr : (if immut d = true then some (R.st d) else none) = some r' := hr
        obtain ⟨hi, rfl⟩ := some_if hr
        exact q v σ H1 T1 fps1 fp p.ext.sx p.fm .refl ⟨⟨p.rr.1, p.rr.2.immut hi⟩, rfl, p.nd, nw⟩
  · cases ht
theorem ex_while {s : Sts} (hc : EvP call XR n c) (hs : ExsP call XR n io s) : ExP call XR n io (.while c s) := fun X W G st ht => by
  unfold trS at ht
  split at ht
  · rw [Bool.and_eq_true] at ht
    refine PS.imp (ps_while G.own (hc.pt G.g ht.1) (hs X W G _ ht.2)) fun D σ H ⟨T, B, fps, e, f, q⟩ => ?_
    have q : OutOk (whileLoop (fun e => truthOf (ev call c e)) (execs call io s) turns e) _ _ := q
    refine ⟨fun m σ' H' => ∃ T' fps' e', Sx io B H T fps H' T' fps' ∧ Fm X.K H' T' B fps' σ' e' ∧ Same io σ σ' ∧ OutOk (whileLoop (fun e => truthOf (ev call c e)) (execs call io s) m e') (flOk X.K io D B H T fps σ) (eArmS X.K XR W io B H T fps σ), ⟨_, T, fps, e, .refl, f, .refl, q⟩, ?_⟩
    rintro m σ1 H1 ⟨T1, fps1, e1, x1, f1, s1, q⟩
    cases m with
    | zero => exact q.elim
    | succ m =>
      refine ⟨T1, B, fps1, e1, f1, (OutOk.bind q).mono (fun k e2 q H2 T2 fps2 x2 f2 => ?_) fun _ _ q => eArmS.toE (eArmS.trans q x1 s1)⟩
      cases k with
      | false => exact q σ1 H2 T2 fps2 (x1.trans x2.sx) f2 s1
      | true =>
        refine ⟨fun σ' H' => ∃ T' fps' e', Sx io B H T fps H' T' fps' ∧ Fm X.K H' T' B fps' σ' e' ∧ Same io σ σ' ∧ OutOk (whileLoop (fun e => truthOf (ev call c e)) (execs call io s) m e') (flOk X.K io D B H T fps σ) (eArmS X.K XR W io B H T fps σ), fun σ' H' h => ⟨m, Nat.lt_succ_self m, h⟩, ?_⟩
        refine ⟨T2, B, fps2, e2, f2, (OutOk.bind q).mono (fun fl e3 q => ?_) fun _ _ q => eArmS.trans q (x1.trans x2.sx) s1⟩
        cases fl with
        | nx => exact fun σ' H' T' fps' x' f' s' => ⟨T', fps', e3, (x1.trans x2.sx).trans x', f', s1.trans s', q⟩
        | rt r => exact fun v σ' H' T' fps' fp x' f' s' p => q v σ' H' T' fps' fp ((x1.trans x2.sx).trans x') f' (s1.trans s') (p.trans (x1.trans x2.sx))
  · cases ht
theorem ex_for {t : Tg} {it : It} {s : Sts} (hi : EvIP call XR n it) (hs : ExsP call XR n io s) : ExP call XR n io (.for t it s) := fun X W G st ht => by
  unfold trS at ht
  split at ht
  · rename_i w x y pos
    simp only [Bool.and_eq_true] at ht
    obtain ⟨⟨⟨h1, h2⟩, h3⟩, h4⟩ := ht
    have hneed := need_of h2
    obtain ⟨pi, pz⟩ := hi X W G.g w x h3 fun hp => by
      obtain ⟨i, j, rfl⟩ := hneed hp
      exact trTg_tup h1
    refine PS.imp (ps_for G.own G.g.calm pi (pg_of G.sto G.g.calm G.g.nd h1) (hs X W G _ h4) (plainX_fold pz _)) fun D σ H ⟨T, B, fps, e, f, q⟩ => ?_
    have q : OutOk (exec call io (.for t it s) e) _ _ := q
    unfold exec at q
    cases hio : t.vars.any io.contains with
    | true => rw [hio] at q; exact q.elim
    | false =>
      rw [hio, if_neg Bool.false_ne_true] at q
      have hio : ∀ i ∈ t.vars, i ∉ io := fun i hi => not_io (by have := List.any_eq_false.mp hio i hi; simpa using this)
      refine ⟨T, B, fps, e, f, (OutOk.bind q).mono (fun xs e1 q J H1 T1 fps1 x1 f1 hJ => ?_) fun _ _ q => eArmS.toE q⟩
      refine ⟨fun i m σ' H' => m = xs.length - i ∧ i ≤ xs.length ∧ ∃ T' fps' e', Sx io B H1 T1 fps1 H' T' fps' ∧ Fm X.K H' T' B fps' σ' e' ∧ Same io σ σ' ∧ OutOk (forLoop t.bind (execs call io s) (xs.drop i) e') (flOk X.K io D B H T fps σ) (eArmS X.K XR W io B H T fps σ),
        ⟨xs.length, by simp, Nat.zero_le _, T1, fps1, e1, .refl, f1, .refl, q⟩, ?_⟩
      rintro i m σ2 H2 ⟨rfl, hi, T2, fps2, e2, x2, f2, s2, q⟩
      obtain ⟨hstop, hgo⟩ := hJ H2 T2 fps2 x2.w i
      by_cases hlt : i < xs.length
      · obtain ⟨d, hd⟩ : ∃ d, xs[i]? = some d := ⟨_, List.getElem?_eq_getElem hlt⟩
        obtain ⟨go, step⟩ := hgo d hd
        rw [List.drop_eq_getElem_cons hlt, show xs[i] = d by rw [List.getElem?_eq_getElem hlt] at hd; exact Option.some.inj hd] at q
        unfold forLoop at q
        refine .inr ⟨go, fun σ' H' => ∃ T' fps' e', Sx io B H1 T1 fps1 H' T' fps' ∧ Fm X.K H' T' B fps' σ' e' ∧ Same io σ σ' ∧ OutOk (forLoop t.bind (execs call io s) (xs.drop (i + 1)) e') (flOk X.K io D B H T fps σ) (eArmS X.K XR W io B H T fps σ), fun σ' H' ⟨T', fps', e', h⟩ => ⟨xs.length - (i + 1), by omega, rfl, by omega, T', fps', e', h⟩, fun v H3 hy => ?_⟩
        obtain ⟨hn, yd⟩ := step v H3 hy
        obtain ⟨f3, x3⟩ := f2.step hn
        cases hb : t.bind d e2 with
        | none => rw [hb] at q; exact q.elim
        | some e4 =>
          rw [hb] at q
          refine gTg_ok hb yd hneed f3 fun σ4 fps4 f4 x4 _ j4 _ => ?_
          have s4 : Same io σ2 σ4 := fun k hk => j4 k fun z => hio k z hk
          have xx := (x1.sx.trans x2).trans (x3.trans x4).sx
          have x24 := x2.trans (x3.trans x4).sx
          refine ⟨T2, B, fps4, e4, f4, (OutOk.bind q).mono (fun fl e5 q => ?_) fun _ _ q => eArmS.trans q xx (s2.trans s4)⟩
          cases fl with
          | nx => exact fun σ' H' T' fps' x' f' s' => ⟨T', fps', e5, x24.trans x', f', (s2.trans s4).trans s', q⟩
          | rt r => exact fun v σ' H' T' fps' fp x' f' s' p => q v σ' H' T' fps' fp (xx.trans x') f' ((s2.trans s4).trans s') (p.trans xx)
      · have e0 : i = xs.length := by omega
        subst e0
        rw [List.drop_length] at q
        exact .inl ⟨hstop rfl, q σ2 H2 T2 fps2 (x1.sx.trans x2) f2 s2⟩
  · cases ht
end
end MP
end

section
set_option autoImplicit false
set_option linter.all false
set_option maxRecDepth 100000
/-! Soundness of expressions, 14: list(range), tuple(range); enumerate. -/
namespace MP
open PySem PySem.Spec PyProof.Rows L2

def rdRg (K : PySem.W.Frag) (XR : XRel) (W : WX) (o : Env → Out (List D)) : L2.St → Hp → (Int → Int → Hp → Prop) → Prop := fun σ H Q => ∃ T B fps e, Fm K H T B fps σ e ∧
  OutOk (o e) (fun ds e1 => ∀ a b, ds = rangeL a (rangeN a b) 1 → smallI a = true → smallI b = true → ∀ H1 T1 fps1, Ext B H T fps H1 T1 fps1 → Fm K H1 T1 B fps1 σ e1 → Q a b H1) (eArm K XR W B H T fps σ)
def RgP (call : CallF) (XR : XRel) (n : Nat) (it : It) : Prop := ∀ (X : Cx) (W : WX), Gd X call XR W n → ∀ (g : Str) (p pos : Pos) (xs : List Expr), gl X.env.scope g "range" = true → trR X.N it X.env.scope xs = true → PRg X (.Call (.Name g p) xs [] pos) (rdRg X.K XR W (evI call it))
theorem PRg.imp {X : Cx} {e : Expr} {t t' : L2.St → Hp → (Int → Int → Hp → Prop) → Prop} (h : PRg X e t) (hi : ∀ σ H Q, t' σ H Q → t σ H Q) : PRg X e t' := fun pins s σ H Q I q => h pins s σ H Q I (hi σ H Q q)
section
variable {call : CallF} {XR : XRel} {n : Nat} {a b c : Ex} {es : Exs}
theorem rg_1 (ha : EvP call XR n a) : RgP call XR n (.range a) := fun X W G g p pos xs hg ht => by
  unfold trR at ht
  split at ht
  · obtain ⟨rfl, g1, g2⟩ := gl_blt G hg (mem_blt (by decide))
    have p1 := tr_plainX ht
    refine PRg.imp (prg_1 g1 g2 (ha.pi G ht) (plainX_star p1 _ _)) fun σ H Q ⟨T, B, fps, e, f, q⟩ => ?_
    refine ⟨T, B, fps, e, f, (OutOk.bind q).mono (fun j e1 q H1 T1 fps1 x1 f1 => ?_) fun _ _ q => q⟩
    obtain ⟨hs, q⟩ := OutOk.of_if q
    exact ⟨j, rfl, q 0 j rfl (by decide) hs H1 T1 fps1 x1 f1⟩
  · cases ht
theorem rg_2 (ha : EvP call XR n a) (hb : EvP call XR n b) : RgP call XR n (.range2 a b) := fun X W G g p pos xs hg ht => by
  unfold trR at ht
  split at ht
  · rw [Bool.and_eq_true] at ht
    obtain ⟨rfl, g1, g2⟩ := gl_blt G hg (mem_blt (by decide))
    have p1 := tr_plainX ht.1
    have p2 := tr_plainX ht.2
    refine PRg.imp (prg_2 g1 g2 (ha.pi G ht.1) (hb.pi G ht.2) (plainX_star p1 _ _) (plainX_star p2 _ _) (by rw [plainX_star p2]; rfl)) fun σ H Q ⟨T, B, fps, e, f, q⟩ => ?_
    refine ⟨T, B, fps, e, f, (OutOk.bind q).mono (fun i e1 q H1 T1 fps1 x1 f1 => ?_) fun _ _ q => q⟩
    refine ⟨T1, B, fps1, e1, f1, (OutOk.bind q).mono (fun j e2 q H2 T2 fps2 x2 f2 => ?_) fun _ _ q => q.trans x1⟩
    obtain ⟨hs, q⟩ := OutOk.of_ifP q
    exact ⟨i, j, rfl, rfl, q i j rfl hs.1 hs.2 H2 T2 fps2 (x1.trans x2) f2⟩
  · cases ht
theorem rg_no {it : It} (h : ∀ N sc xs, trR N it sc xs = false) : RgP call XR n it := fun X W G g p pos xs hg ht => by rw [h] at ht; cases ht
theorem rgV_ok {K : PySem.W.Frag} {H : Hp} {T : Addr → Prop} (a b : Int) : RpAll K H T (rgV a b) (rangeL a (rangeN a b) 1) := by
  refine RqAll.of_get (by rw [rgV_length, rangeL_length]; rfl) fun i v d h1 h2 => ?_
  rw [rangeL_get] at h2
  split at h2
  · rename_i hi
    cases h2
    unfold rgV at h1
    have hi : i < (b - a).toNat := hi
    rw [List.getElem?_map, List.getElem?_range hi] at h1
    cases h1
    rw [Int.mul_one]
    exact .int _
  · cases h2
theorem rgOk_of {a b : Int} {xs : List D} (ha : smallI a = true) (hb : smallI b = true) (e : xs = rangeL a (rangeN a b) 1) (hl : xs.length ≤ line) : RgOk a b := by
  have h1 := smallI_of ha
  have h2 := smallI_of hb
  rw [e, rangeL_length] at hl
  refine ⟨h1.1, h1.2, h2.1, h2.2, ?_⟩
  have : line = 2 ^ 24 := rfl
  rw [← this]
  exact hl
theorem evI_range_inv {it : It} {e : Env} {P : List D → Env → Prop} {E : Exn → Env → Prop} (hk : ∀ N sc xs, trR N it sc xs = true → True) (h : OutOk (evI call it e) P E) (hit : (∃ a, it = .range a) ∨ ∃ a b, it = .range2 a b) :
    OutOk (evI call it e) (fun ds e1 => P ds e1 ∧ ∃ a b, ds = rangeL a (rangeN a b) 1) E := by
  refine (h.and_all (fun ds => ∃ a b, ds = rangeL a (rangeN a b) 1) fun ds e1 he => ?_).mono (fun _ _ q => ⟨q.2, q.1⟩) fun _ _ q => q
  rcases hit with ⟨a, rfl⟩ | ⟨a, b, rfl⟩
  · obtain ⟨j, e2, _, he⟩ := Out.bind_ok he
    split at he
    · cases he; exact ⟨0, j, rfl⟩
    · cases he
  · obtain ⟨i, e2, _, he⟩ := Out.bind_ok he
    obtain ⟨j, e3, _, he⟩ := Out.bind_ok he
    split at he
    · cases he; exact ⟨i, j, rfl⟩
    · cases he
theorem trR_star {N : List Str} {it : It} {sc : Scope} {g : Str} {xs : List Expr} {p pos : Pos} (h : trR N it sc xs = true) : plainX (.Call (.Name g p) xs [] pos) = true := by
  cases xs with
  | nil => cases it <;> (unfold trR at h; cases h)
  | cons _ _ => rfl
theorem ev_itL {it : It} (hr : RgP call XR n it) : EvP call XR n (.itL it) := EvP.plain (fun _ z => nomatch z) fun X W G x ht => by
  unfold tr at ht
  split at ht
  · simp only [Bool.and_eq_true] at ht
    obtain ⟨⟨h1, h2⟩, h3⟩ := ht
    obtain ⟨rfl, g1, g2⟩ := gl_blt G h1 (mem_blt (by decide))
    refine ⟨PE.imp (pe_listRg G.calm g1 g2 (hr X W G _ _ _ _ h2 h3) rfl) fun σ H Q ⟨T, B, fps, e, f, q⟩ => ?_, rfl⟩
    refine ⟨T, B, fps, e, f, (OutOk.bind q).mono (fun ds e1 q a b ed ha hb H1 T1 fps1 x1 f1 => ?_) fun _ _ q => q⟩
    obtain ⟨hl, q⟩ := OutOk.of_ifP q
    subst ed
    exact ⟨rgOk_of ha hb rfl hl, done_lst q x1 f1 (rgV_ok a b)⟩
  · cases ht
theorem ev_itT {it : It} (hr : RgP call XR n it) : EvP call XR n (.itT it) := EvP.plain (fun _ z => nomatch z) fun X W G x ht => by
  unfold tr at ht
  split at ht
  · simp only [Bool.and_eq_true] at ht
    obtain ⟨⟨h1, h2⟩, h3⟩ := ht
    obtain ⟨rfl, g1, g2⟩ := gl_blt G h1 (mem_blt (by decide))
    refine ⟨PE.imp (pe_tupRgF G.calm g1 g2 (hr X W G _ _ _ _ h2 h3) rfl) fun σ H Q ⟨T, B, fps, e, f, q⟩ => ?_, rfl⟩
    refine ⟨T, B, fps, e, f, (OutOk.bind q).mono (fun ds e1 q a b ed ha hb H1 T1 fps1 x1 f1 => ?_) fun _ _ q => q⟩
    obtain ⟨hl, q⟩ := OutOk.of_ifP q
    subst ed
    exact ⟨rgOk_of ha hb rfl hl, done_tup q x1 f1 (rgV_ok a b)⟩
  · cases ht
end
/-! ### enumerate(t), t a tuple -/
theorem pyNext_enumT_end {prog : Program} {w : World} {A : Around} {E : Value → Shared → Prop} {s : Shared} {e it l : Addr} {i : Nat} {items : Array Value} {old : Value} {Q : Option Value → Shared → Prop} (hh : A.handled = none)
    (he : IsEnum s.heap e it i old) (hit : s.heap.IsTupleIter it l i) (hl : s.heap.IsTuple l items) (hx : items[i]? = none)
    (hQ : ∀ h', Heap.ExtBut it s.heap h' → Q none { s with heap := h' }) : wpAny (model prog w) A (pyNext (.ref e)) Q E s := by
  have hT : s.TypeIs (.ref e) "enumerate" := ⟨_, he, rfl⟩
  unfold pyNext
  refine wpAny_bind (wpAny_attempt (wpAny_callSpecial?_slot (name := Str.ofString "__next__") hT F.slot_enumerate_next
    (wpAny_call_entry F.slot_enumerate_next hT F.entry_enumerate_next ?_ (F.args_enumerate_next_1 _))))
  show wpAny _ _ (PySem.field (.ref e) 2 >>= _) _ _ _
  refine wpAny_bind (wpAny_field he rfl (x := .ref it) rfl ?_)
  refine wpAny_bind (RZ.nextOf_tuple_end hh hit hl hx fun h' x he' hx' => ?_)
  obtain ⟨o, ho, hc⟩ := hx'
  refine wpAny_bind (wpAny_isInstance (T := "StopIteration") (b := true) ⟨o, ho, hc⟩ isSubtype_stop ?_)
  exact wpAny_pure (hQ _ he')
section
variable {P : Program} {w : World} {K : PySem.W.Frag}
/-- the tuple at a, each item in a new pair -/
def IteT (K : PySem.W.Frag) (a : Addr) : L2.It :=
  ⟨fun i H => ∃ (xs : List V) (x : V), SqT K H a xs ∧ xs[i]? = some x, fun i H v H' => ∃ T x, v = .ref T ∧ H T = none ∧ H' = upd H T (.tup [.int (i : Nat), x]) ∧ ∀ xs, SqT K H a xs → xs[i]? = some x, fun i H => ∃ xs : List V, SqT K H a xs ∧ xs.length ≤ i⟩
theorem turn_enumT {elts : List Expr} {kk : Nat} {tpos : Pos} (a e it : Addr) (hae : a ≠ e) (hai : a ≠ it) :
    Turn P w K (.Tuple elts kk tpos) (IteT K a) [e, it] e (fun i h => (∃ old, IsEnum h e it ((i : Nat) : Int) old) ∧ h.IsTupleIter it a i ∧ e ≠ it) where
  mem := by simp
  obj := fun i h st b hb => by
    obtain ⟨⟨old, he⟩, ⟨o, ho, hc, hd⟩, _⟩ := st
    have e' : b = e ∨ b = it := by simpa using hb
    rcases e' with z | z
    · rw [z]; exact ⟨_, he, fun v q => nomatch q⟩
    · rw [z]; exact ⟨o, ho, fun v q => by rw [hd] at q; cases q⟩
  keep := fun i h h' st k => let ⟨⟨old, he⟩, hi, hne⟩ := st; ⟨⟨old, k e (by simp) _ he⟩, hi.at fun o q => k it (by simp) o q, hne⟩
  item := by
    intro X hP hw hK hc i pins s σ H E I hf st hg
    subst hP hw hK
    obtain ⟨⟨old, he⟩, hit, hne⟩ := st
    obtain ⟨xs, x, hq, hx⟩ := hg
    obtain ⟨its, rv, p, hz⟩ := I.tuple hq
    obtain ⟨u, hu, ru⟩ := rv.get hx
    have hel : e < s.heap.objs.size := Heap.lt_size he
    have hil : it < s.heap.objs.size := by obtain ⟨_, q, _⟩ := hit; exact Heap.lt_size q
    have hlt : i < its.toArray.size := by
      have := List.getElem?_eq_some_iff.mp hu
      simpa using this.1
    have D := Draws.tuple (prog := X.prog) (w := X.w) (A := X.A.in1) (I.ok.hd hc) it a hai its.toArray
    refine wpAny_pyNext_enum_itemD D he ⟨hit, p⟩ hlt hne (by simp [hne, Ne.symm hae]) fun y h' tk hy ho st' hT hsz hk => ?_
    have hyu : y = u := by
      rw [← Array.getElem?_toList] at hy
      have hy : its[i]? = some y := hy
      rw [hu] at hy; cases hy; rfl
    subst hyu
    refine ⟨_, rfl, wpAny_letOwnedTupleGo_enum (s := { s with heap := h', toks := tk + 1 }) ho fun h'' he' sb => ?_⟩
    have hT2 : h''.get? s.heap.objs.size = some { cls := .type "tuple", data := .seq #[.int i tk, y] } := (sb.2 _ (Nat.ne_of_gt hel)).trans hT
    have new : ObjOk X.prog X.w (upd H s.heap.objs.size (.tup [.int (i : Nat), x])) h'' s.heap.objs.size (.tup [.int (i : Nat), x]) :=
      ⟨by show 2 ≤ sizeLine; decide, [.int i tk, y], .cons ⟨_, rfl⟩ (.cons ru .nil), ⟨_, hT2, rfl, _, rfl⟩⟩
    have I1 : Inv X pins σ (upd H s.heap.objs.size (.tup [.int (i : Nat), x])) { s with heap := h'', toks := tk + 1 } :=
      I.turnedNew (ch := [e, it]) (fun b ob hb q => (sb.2 b (fun z => hb (by simp [z]))).trans (hk b ob (fun z => hb (by simp [z])) (fun z => hb (by simp [z])) q)) hf (Nat.le_refl _) new
    refine ⟨.ref s.heap.objs.size, _, I1, rfl, ⟨_, x, rfl, I.hok.fresh (Nat.le_refl _), rfl, fun ys hy => by rw [I.tuple_inj hy hq]; exact hx⟩, ⟨⟨y, ?_⟩, st'.1.at fun o q => (sb.2 it (Ne.symm hne)).trans q, hne⟩, fun b hb => ?_⟩
    · have e1 : ((i + 1 : Nat) : Int) = (i : Int) + 1 := by omega
      rw [e1]; exact he'
    · have hb' : b < s.heap.objs.size := by
        have e' : b = e ∨ b = it := by simpa using hb
        rcases e' with z | z
        · rw [z]; exact hel
        · rw [z]; exact hil
      rw [upd_ne (Nat.ne_of_lt hb')]
      exact (hf b hb).1
  done := by
    intro X hP hw hK hc i pins s σ H E I hf st hg
    subst hP hw hK
    obtain ⟨⟨old, he⟩, hit, hne⟩ := st
    obtain ⟨xs, hq, hx⟩ := hg
    obtain ⟨its, rv, p, hz⟩ := I.tuple hq
    obtain ⟨f0, f1, f2, f3, f4, f5⟩ := hf it (by simp)
    have hl := rv.length
    exact pyNext_enumT_end (I.ok.hd hc) he hit p (by simp; omega) fun h' eb => ⟨rfl, I.turned (t' := s.toks) (fun b o hb q => eb b o hb q) f0 f1 f3 f4 f5⟩
  self := fun A i s Q E st h => let ⟨⟨_, he⟩, _⟩ := st; wpAny_pyIter_enum he h
end
section
variable {prog : Program} {w : World} {A : Around} {E : Value → Shared → Prop} {s : Shared}
theorem meets_enumB {v : Value} {o : Obj} {H : Heap → Prop} (B : Begins v o H) :
    Meets (Builtin.«enumerate.__new__» ⟨[.type "enumerate", v], []⟩) (fun _ R s => H s.heap ∧
      R (.ok (.ret (.ref (s.heap.push o).objs.size))) { s with heap := (s.heap.push o).push { cls := .type "enumerate", data := .fields #[.none, .bool false, .ref s.heap.objs.size, rawInt 0, .none, .none] } }) :=
  .of_wp fun prog w A R s h => by
    obtain ⟨hp, g, d, tk, os⟩ := s; obtain ⟨h1, h⟩ := h
    have hsub := sub_enumerate
    have q1 : ∀ {A' : Around} {E : Value → Shared → Prop} {Q : Value → Shared → Prop}, Q (.ref hp.objs.size) ⟨hp.push o, g, d, tk, os⟩ → wpAny (model prog w) A' (pyIter v) Q E ⟨hp, g, d, tk, os⟩ :=
      fun q => B.iter prog w _ _ ⟨hp, g, d, tk, os⟩ _ h1 q
    wp_walk using q1
    refine wpAny_stack_any fun st => wpAny_pure ?_
    split
    · rename_i c _ _ _ _ _
      cases (c == Value.type "enumerate")
      · wp_walk using q1
        exact ⟨_, rfl, h⟩
      · wp_walk using q1
        exact ⟨_, rfl, h⟩
    · wp_walk using q1
      exact ⟨_, rfl, h⟩
/-- enumerate(v), v that begins an iterator -/
theorem call_enumB {v : Value} {o : Obj} {Hd : Heap → Prop} {Q : Value → Shared → Prop} (B : Begins v o Hd) (h1 : Hd s.heap)
    (h : ∀ h', IsEnum h' (s.heap.objs.size + 1) s.heap.objs.size 0 .none → h'.get? s.heap.objs.size = some o → h'.objs.size = s.heap.objs.size + 2 →
      (∀ b o, s.heap.get? b = some o → h'.get? b = some o) → Q (.ref (s.heap.objs.size + 1)) { s with heap := h' }) :
    wpAny (model prog w) A (call (.type "enumerate") [v]) Q E s := by
  refine callType_new F.called_enumerate (by decide) (F.typeCall_enumerate_1 _) (F.newCall_enumerate_1 _) (fun obj => F.args_object_init_2 obj _) F.entry_enumerate_new
    (meets_enumB B) ⟨h1, ?_⟩
  have hz : (s.heap.push o).objs.size = s.heap.objs.size + 1 := Heap.size_push ..
  show _ ∧ _
  rw [hz]
  have he : IsEnum ((s.heap.push o).push { cls := .type "enumerate", data := .fields #[.none, .bool false, .ref s.heap.objs.size, rawInt 0, .none, .none] }) (s.heap.objs.size + 1) s.heap.objs.size 0 .none := by
    have := Heap.get?_push_size (s.heap.push o) (o := { cls := .type "enumerate", data := .fields #[.none, .bool false, .ref s.heap.objs.size, rawInt 0, .none, .none] }) rfl
    rw [hz] at this; exact this
  refine ⟨⟨_, he, rfl⟩, h _ he (Heap.get?_push_of_some _ (Heap.get?_push_size _ B.free)) (by rw [Heap.size_push, hz]) fun b o x => Heap.get?_push_of_some _ (Heap.get?_push_of_some _ x)⟩
end
def iEnumA (K : PySem.W.Frag) (te : TE) : TI := fun σ H R => tCons te tNil σ H fun vs H1 => ∃ a, vs = [.ref a] ∧ (((∃ xs, SqL K H1 a xs) ∧ R (Ite K a) H1) ∨ ((∃ xs, SqT K H1 a xs) ∧ R (IteT K a) H1))
theorem pi_enumA {X : Cx} {e : Expr} {te : TE} {p pos tpos : Pos} {elts : List Expr} {kk : Nat} (hg : Gl X "enumerate") (hm : X.mg "enumerate" = none) (he : PE X e te) (pe : plainX e = true) :
    PI X (.Tuple elts kk tpos) (.Call (.Name "enumerate" p) [e] [] pos) (iEnumA X.K te) := by
  refine ⟨fun pins s σ H R I h => ?_⟩
  refine Call_ (ld_blt I hg hm boot_enumerate (PyProof.Rows.callWith_type1 (thn ((pa_cons he pa_nil (plainX_star pe _ _)).run pos pins s σ H _ I h) fun us s1 ⟨vs, H1, I1, r1, a, ex, q⟩ => ?_) (plainX_star pe _ _) rfl))
  subst ex
  obtain ⟨u, rfl, ru⟩ := r1.one
  cases ru
  have fr : ∀ b ∈ [s1.heap.objs.size + 1, s1.heap.objs.size], FpOk X pins H1 b := fun b hb => by
    have e' : b = s1.heap.objs.size + 1 ∨ b = s1.heap.objs.size := by simpa using hb
    have hle : s1.heap.objs.size ≤ b := by
      rcases e' with z | z
      · rw [z]; exact Nat.le_add_right _ _
      · rw [z]; exact Nat.le_refl _
    exact I1.fpOk hle (I1.hok.fresh hle)
  rcases q with ⟨⟨xs, hq⟩, q⟩ | ⟨⟨xs, hq⟩, q⟩
  · obtain ⟨its, rv, pl, hz⟩ := I1.list hq
    refine call_enumerate_list pl.isList fun h' he hit hsz hk => wpAny_pyIter_enum he ?_
    have I2 : Inv X pins σ H1 { s1 with heap := h' } := I1.kept (t' := s1.toks) hk
    exact ⟨s1.heap.objs.size + 1, [s1.heap.objs.size + 1, s1.heap.objs.size], _, _, H1, rfl, I2, turn_enum a (s1.heap.objs.size + 1) s1.heap.objs.size, ⟨⟨.none, he⟩, hit, Nat.succ_ne_self _⟩, fr, q⟩
  · obtain ⟨its, rv, pl, hz⟩ := I1.tuple hq
    have hal : a < s1.heap.objs.size := by obtain ⟨o, ho, _⟩ := pl; exact Heap.lt_size ho
    refine call_enumB (begins_tuple a its.toArray) pl fun h' he hit hsz hk => wpAny_pyIter_enum he ?_
    have I2 : Inv X pins σ H1 { s1 with heap := h' } := I1.kept (t' := s1.toks) hk
    exact ⟨s1.heap.objs.size + 1, [s1.heap.objs.size + 1, s1.heap.objs.size], _, _, H1, rfl, I2, turn_enumT a (s1.heap.objs.size + 1) s1.heap.objs.size (Nat.ne_of_lt (Nat.lt_succ_of_lt hal)) (Nat.ne_of_lt hal), ⟨⟨.none, he⟩, ⟨_, hit, rfl, rfl⟩, Nat.succ_ne_self _⟩, fr, q⟩
section
variable {call : CallF} {XR : XRel} {n : Nat} {a b c : Ex} {es : Exs}
theorem pairs_get {n i : Nat} {d : D} : ∀ {xs : List D}, (pairs n xs)[i]? = some d → ∃ x, xs[i]? = some x ∧ d = .tuple [.int ((n + i : Nat) : Int), x] := by
  intro xs
  induction xs generalizing n i with
  | nil => intro h; simp [pairs] at h
  | cons x xs ih =>
    intro h
    cases i with
    | zero => simp [pairs] at h; exact ⟨x, rfl, by rw [← h]; simp⟩
    | succ i =>
      obtain ⟨y, h1, h2⟩ := ih (n := n + 1) (i := i) (by simpa [pairs] using h)
      exact ⟨y, by simpa using h1, by rw [h2, show n + 1 + i = n + (i + 1) by omega]⟩
theorem pairs_length {n : Nat} {xs : List D} : (pairs n xs).length = xs.length := by
  induction xs generalizing n with
  | nil => rfl
  | cons x xs ih => show (pairs (n + 1) xs).length + 1 = _; rw [ih]; rfl
theorem evi_enum (ha : EvP call XR n a) : EvIP call XR n (.enum a) := fun X W G tg x ht hp => by
  unfold trI at ht
  split at ht
  · rw [Bool.and_eq_true] at ht
    obtain ⟨hg, h1⟩ := ht
    obtain ⟨rfl, g1, g2⟩ := gl_blt G hg (mem_blt (by decide))
    have p1 := tr_plainX h1
    have htg := hp rfl
    cases tg <;> first | (cases htg; done) | skip
    refine ⟨PI.imp (pi_enumA g1 g2 (ha.pe G h1) p1) fun σ H R ⟨T, B, fps, e, f, q⟩ => ?_, rfl⟩
    refine ⟨T, B, fps, e, f, (OutOk.bind q).mono (fun ra e1 q v H1 T1 fps1 fp p => ?_) fun _ _ q => q⟩
    obtain ⟨xs, hx, q⟩ := q.of_liftB
    have fin : ∀ {K : PySem.W.Frag} {H' : Hp} {T2 : Addr → Prop} {H2 : Hp} {p : Addr} {i : Nat} {y : V} {d : D}, H2 p = none → Rp K H2 T2 y d → H' = upd H2 p (.tup [.int (i : Nat), y]) → Yd K H' T2 (.ref p) (.tuple [.int ((0 + i : Nat) : Int), d]) true := fun {K H' T2 H2 p i y d} hn hr e => by
      subst e
      refine ⟨p, .int i, y, .int i, d, rfl, .inl (.inl upd_same), by rw [Nat.zero_add], .int _, hr.keep (.new hn fun _ h => h)⟩
    obtain ⟨a, rfl, h | h⟩ := p.walk hx
    · obtain ⟨vs, h2, _⟩ := h.2 H1 T1 fps1 .refl
      refine ⟨a, rfl, .inl ⟨⟨vs, h2⟩, q _ H1 T1 fps1 p.ext p.fm fun H2 T2 fps2 x2 i => ?_⟩⟩
      obtain ⟨us, hq, hr⟩ := h.2 H2 T2 fps2 x2
      refine ⟨fun hl => ⟨us, hq, hr.le (by rw [pairs_length] at hl; exact Nat.le_of_eq hl)⟩, fun d hd => ?_⟩
      obtain ⟨y, hy, rfl⟩ := pairs_get hd
      obtain ⟨w, hw, rw'⟩ := hr.get hy
      refine ⟨⟨us, w, hq, hw⟩, fun z H' hz => ?_⟩
      obtain ⟨p', y', rfl, hn, he, hall⟩ := hz
      have := hall us hq
      rw [hw] at this; cases this
      exact ⟨.inr ⟨p', _, hn, he⟩, fin hn rw' he⟩
    · obtain ⟨vs, h2, _⟩ := h.2 H1 T1 fps1 .refl
      refine ⟨a, rfl, .inr ⟨⟨vs, h2⟩, q _ H1 T1 fps1 p.ext p.fm fun H2 T2 fps2 x2 i => ?_⟩⟩
      obtain ⟨us, hq, hr⟩ := h.2 H2 T2 fps2 x2
      refine ⟨fun hl => ⟨us, hq, hr.le (by rw [pairs_length] at hl; exact Nat.le_of_eq hl)⟩, fun d hd => ?_⟩
      obtain ⟨y, hy, rfl⟩ := pairs_get hd
      obtain ⟨w, hw, rw'⟩ := hr.get hy
      refine ⟨⟨us, w, hq, hw⟩, fun z H' hz => ?_⟩
      obtain ⟨p', y', rfl, hn, he, hall⟩ := hz
      have := hall us hq
      rw [hw] at this; cases this
      exact ⟨.inr ⟨p', _, hn, he⟩, fin hn rw' he⟩
  · cases ht
end
end MP
end

section
set_option autoImplicit false
set_option linter.all false
set_option maxRecDepth 100000
/-! Soundness of expressions, 15: zip of two lists or tuples. -/
namespace MP
open PySem PySem.Spec PyProof.Rows L2

def SqK (K : PySem.W.Frag) (H : Hp) (k : Bool) (a : Addr) (xs : List V) : Prop := if k = true then SqT K H a xs else SqL K H a xs
def IsIt (h : Heap) (k : Bool) (it a : Addr) (i : Nat) : Prop := if k = true then h.IsTupleIter it a i else h.IsListIter it a i
def IsSq (h : Heap) (k : Bool) (a : Addr) (its : Array Value) : Prop := if k = true then h.IsTuple a its else h.IsList a its
theorem drawsK {prog : Program} {w : World} {A : Around} (hh : A.handled = none) (k : Bool) (it a : Addr) (hne : a ≠ it) (items : Array Value) :
    Draws prog w A it [it, a] items.size (fun i v => items[i]? = some v) (fun i h => IsIt h k it a i ∧ IsSq h k a items) := by
  cases k with
  | true => exact Draws.tuple hh it a hne items
  | false => exact Draws.list hh it a hne items
theorem Inv.sqK {X : Cx} {pins : List (Addr × Obj)} {σ : L2.St} {H : Hp} {s : Shared} {k : Bool} {a : Addr} {xs : List V} (I : Inv X pins σ H s) (h : SqK X.K H k a xs) : ∃ its : List Value, Vals xs its ∧ IsSq s.heap k a its.toArray := by
  cases k with
  | true => obtain ⟨its, r, p, _⟩ := I.tuple h; exact ⟨its, r, p⟩
  | false => obtain ⟨its, r, p, _⟩ := I.list h; exact ⟨its, r, p.isList⟩
theorem Inv.sqK_inj {X : Cx} {pins : List (Addr × Obj)} {σ : L2.St} {H : Hp} {s : Shared} {k : Bool} {a : Addr} {xs ys : List V} (I : Inv X pins σ H s) (h : SqK X.K H k a xs) (h2 : SqK X.K H k a ys) : xs = ys := by
  cases k with
  | true => exact I.tuple_inj h h2
  | false => exact I.list_inj h h2
def ItzK (K : PySem.W.Frag) (k1 : Bool) (a : Addr) (k2 : Bool) (b : Addr) : L2.It :=
  ⟨fun i H => ∃ (xs ys : List V) (x y : V), SqK K H k1 a xs ∧ SqK K H k2 b ys ∧ xs[i]? = some x ∧ ys[i]? = some y,
    fun i H v H' => ∃ T x y, v = .ref T ∧ H T = none ∧ H' = upd H T (.tup [x, y]) ∧ (∀ xs, SqK K H k1 a xs → xs[i]? = some x) ∧ ∀ ys, SqK K H k2 b ys → ys[i]? = some y,
    fun i H => ∃ xs ys : List V, SqK K H k1 a xs ∧ SqK K H k2 b ys ∧ i ≤ xs.length ∧ i ≤ ys.length ∧ (i = xs.length ∨ i = ys.length)⟩
theorem IsIt.at {h h' : Heap} {k : Bool} {it a : Addr} {i : Nat} (x : IsIt h k it a i) (hk : ∀ o, h.get? it = some o → h'.get? it = some o) : IsIt h' k it a i := by
  cases k with
  | true => exact Heap.IsTupleIter.at x fun o e => hk o e
  | false => exact Heap.IsListIter.at x fun o e => hk o e
theorem IsIt.obj {h : Heap} {k : Bool} {it a : Addr} {i : Nat} (x : IsIt h k it a i) : ∃ o, h.get? it = some o ∧ ∀ v, o.data ≠ .cell v := by
  cases k with
  | true => obtain ⟨o, e, _, d⟩ := x; exact ⟨o, e, fun v q => by rw [d] at q; cases q⟩
  | false => obtain ⟨o, e, _, d⟩ := x; exact ⟨o, e, fun v q => by rw [d] at q; cases q⟩
theorem turn_zipK {P : Program} {w : World} {K : PySem.W.Frag} {elts : List Expr} {kk : Nat} {tpos : Pos} {k1 k2 : Bool} {a b z TI TO i1 i2 : Addr} (S : ZipSep2 z TI TO i1 i2 [i1, a] [i2, b]) (na : a ≠ i1) (nb : b ≠ i2) :
    Turn P w K (.Tuple elts kk tpos) (ItzK K k1 a k2 b) [z, TI, TO, i1, i2] z (fun i h => IsZip h z TI TO .none ∧ IsTupOf2 h TI (.ref i1) (.ref i2) ∧ (∃ x y, IsTupOf2 h TO x y) ∧ IsIt h k1 i1 a i ∧ IsIt h k2 i2 b i) where
  mem := by simp
  obj := fun i h st c hc => by
    obtain ⟨hz, hTI, ⟨x, y, hTO⟩, h1, h2⟩ := st
    have e' : c = z ∨ c = TI ∨ c = TO ∨ c = i1 ∨ c = i2 := by simpa using hc
    rcases e' with q | q | q | q | q
    · rw [q]; exact ⟨_, hz, fun v q => nomatch q⟩
    · rw [q]; exact ⟨_, hTI, fun v q => nomatch q⟩
    · rw [q]; exact ⟨_, hTO, fun v q => nomatch q⟩
    · rw [q]; exact h1.obj
    · rw [q]; exact h2.obj
  keep := fun i h h' st k => by
    obtain ⟨hz, hTI, ⟨x, y, hTO⟩, h1, h2⟩ := st
    exact ⟨k z (by simp) _ hz, k TI (by simp) _ hTI, ⟨x, y, k TO (by simp) _ hTO⟩, h1.at fun o q => k i1 (by simp) o q, h2.at fun o q => k i2 (by simp) o q⟩
  item := by
    intro X hP hw hK hc i pins s σ H E I hf st hg
    subst hP hw hK
    obtain ⟨hz, hTI, ⟨x0, y0, hTO⟩, h1, h2⟩ := st
    obtain ⟨xs, ys, x, y, hqx, hqy, hx, hy⟩ := hg
    obtain ⟨its, rv, p⟩ := Inv.sqK I hqx
    obtain ⟨its2, rv2, p2⟩ := Inv.sqK I hqy
    obtain ⟨u, hu, ru⟩ := rv.get hx
    obtain ⟨u2, hu2, ru2⟩ := rv2.get hy
    have hzl : z < s.heap.objs.size := Heap.lt_size hz
    have D1 := drawsK (prog := X.prog) (w := X.w) (A := X.A.in1) (I.ok.hd hc) k1 i1 a na its.toArray
    have D2 := drawsK (prog := X.prog) (w := X.w) (A := X.A.in1) (I.ok.hd hc) k2 i2 b nb its2.toArray
    have l1 : i < its.toArray.size := by have := (List.getElem?_eq_some_iff.mp hu).1; simpa using this
    have l2 : i < its2.toArray.size := by have := (List.getElem?_eq_some_iff.mp hu2).1; simpa using this
    refine wpAny_pyNext_zipD2_item S D1 D2 hz hTI hTO ⟨h1, p⟩ ⟨h2, p2⟩ l1 l2 fun v1 v2 h' tk hv1 hv2 z' TO' h1' h2' hT hsz hk => ?_
    have e1 : v1 = u := by
      rw [← Array.getElem?_toList] at hv1
      have hv1 : its[i]? = some v1 := hv1
      rw [hu] at hv1; cases hv1; rfl
    have e2 : v2 = u2 := by
      rw [← Array.getElem?_toList] at hv2
      have hv2 : its2[i]? = some v2 := hv2
      rw [hu2] at hv2; cases hv2; rfl
    subst e1 e2
    refine ⟨_, rfl, wpAny_letOwnedTupleGo_zip (s := { s with heap := h', toks := tk }) z' fun h'' z'' sb => ?_⟩
    have hT2 : h''.get? s.heap.objs.size = some { cls := .type "tuple", data := .seq #[v1, v2] } := (sb.2 _ (Nat.ne_of_gt hzl)).trans hT
    have new : ObjOk X.prog X.w (upd H s.heap.objs.size (.tup [x, y])) h'' s.heap.objs.size (.tup [x, y]) :=
      ⟨by show 2 ≤ sizeLine; decide, [v1, v2], .cons ru (.cons ru2 .nil), ⟨_, hT2, rfl, _, rfl⟩⟩
    have I1 : Inv X pins σ (upd H s.heap.objs.size (.tup [x, y])) { s with heap := h'', toks := tk } :=
      I.turnedNew (ch := [z, TI, TO, i1, i2]) (fun c o hb q => (sb.2 c (fun q' => hb (by simp [q']))).trans (hk c o (fun q' => hb (by simp [q'])) (fun q' => hb (by simp [q'])) (fun q' => hb (by simp [q'])) (fun q' => hb (by simp [q'])) q)) hf (Nat.le_refl _) new
    refine ⟨.ref s.heap.objs.size, _, I1, rfl, ⟨_, x, y, rfl, I.hok.fresh (Nat.le_refl _), rfl, fun l hl => by rw [Inv.sqK_inj I hl hqx]; exact hx, fun l hl => by rw [Inv.sqK_inj I hl hqy]; exact hy⟩, ⟨z'', ?_, ⟨v1, v2, ?_⟩, ?_, ?_⟩, fun c hcm => ?_⟩
    · exact (sb.2 _ S.TIz).trans (hk _ _ S.TIz S.TITO S.TIi1 S.TIi2 hTI)
    · exact (sb.2 _ S.TOz).trans TO'
    · exact h1'.1.at fun o q => (sb.2 _ (Ne.symm S.zi1)).trans q
    · exact h2'.1.at fun o q => (sb.2 _ (Ne.symm S.zi2)).trans q
    · have hlt : c < s.heap.objs.size := by
        have e' : c = z ∨ c = TI ∨ c = TO ∨ c = i1 ∨ c = i2 := by simpa using hcm
        rcases e' with q | q | q | q | q
        · rw [q]; exact hzl
        · rw [q]; exact Heap.lt_size hTI
        · rw [q]; exact Heap.lt_size hTO
        · rw [q]; obtain ⟨_, e1, _⟩ := h1.obj; exact Heap.lt_size e1
        · rw [q]; obtain ⟨_, e2, _⟩ := h2.obj; exact Heap.lt_size e2
      rw [upd_ne (Nat.ne_of_lt hlt)]
      exact (hf c hcm).1
  done := by
    intro X hP hw hK hc i pins s σ H E I hf st hg
    subst hP hw hK
    obtain ⟨hz, hTI, ⟨x0, y0, hTO⟩, h1, h2⟩ := st
    obtain ⟨xs, ys, hqx, hqy, hle1, hle2, hend⟩ := hg
    obtain ⟨its, rv, p⟩ := Inv.sqK I hqx
    obtain ⟨its2, rv2, p2⟩ := Inv.sqK I hqy
    have D1 := drawsK (prog := X.prog) (w := X.w) (A := X.A.in1) (I.ok.hd hc) k1 i1 a na its.toArray
    have D2 := drawsK (prog := X.prog) (w := X.w) (A := X.A.in1) (I.ok.hd hc) k2 i2 b nb its2.toArray
    have l1 := rv.length
    have l2 := rv2.length
    refine wpAny_pyNext_zipD2_end S D1 D2 hz hTI hTO ⟨h1, p⟩ ⟨h2, p2⟩ (by simp; omega) (by simp; omega) (by simp; omega) fun h' tk hk => ⟨rfl, I.turnedL (t' := tk) (ch := [z, TI, TO, i1, i2]) (fun c o hb q =>
      hk c o (fun q' => hb (by simp [q'])) (fun q' => hb (by simp [q'])) (fun q' => hb (by simp [q'])) (fun q' => hb (by simp [q'])) q) hf⟩
  self := fun A i s Q E st h => wpAny_pyIter_zip st.1 h
def itO (k : Bool) (a : Addr) : Obj := { cls := .type (if k = true then "tuple_iterator" else "list_iterator"), data := .fields #[.ref a, .int 0 0] }
theorem beginsK (k : Bool) (a : Addr) (its : Array Value) : Begins (.ref a) (itO k a) fun h => IsSq h k a its := by
  cases k with
  | true => exact begins_tuple a its
  | false => exact begins_list a its
theorem itO_is {h : Heap} {k : Bool} {it a : Addr} (e : h.get? it = some (itO k a)) : IsIt h k it a 0 := by
  cases k with
  | true => exact ⟨_, e, rfl, rfl⟩
  | false => exact ⟨_, e, rfl, rfl⟩
theorem IsSq.lt {h : Heap} {k : Bool} {a : Addr} {its : Array Value} (x : IsSq h k a its) : a < h.objs.size := by
  cases k with
  | true => obtain ⟨o, e, _⟩ := x; exact Heap.lt_size e
  | false => obtain ⟨o, e, _⟩ := x; exact Heap.lt_size e
def iZipK (K : PySem.W.Frag) (ta tb : TE) : TI := fun σ H R => tCons ta (tCons tb tNil) σ H fun vs H1 => ∃ a b k1 k2, vs = [.ref a, .ref b] ∧ (∃ xs, SqK K H1 k1 a xs) ∧ (∃ ys, SqK K H1 k2 b ys) ∧ R (ItzK K k1 a k2 b) H1
theorem pi_zipK {X : Cx} {e e2 : Expr} {ta tb : TE} {p pos tpos : Pos} {elts : List Expr} {kk : Nat} (hg : Gl X "zip") (hm : X.mg "zip" = none) (ha : PE X e ta) (hb : PE X e2 tb) (p1 : plainX e = true) (p2 : plainX e2 = true) :
    PI X (.Tuple elts kk tpos) (.Call (.Name "zip" p) [e, e2] [] pos) (iZipK X.K ta tb) := by
  refine ⟨fun pins s σ H R I h => ?_⟩
  refine Call_ (ld_blt I hg hm PyProof.Rows.boot_zip (PyProof.Rows.callWith_type1 (thn ((pa_cons ha (pa_cons hb pa_nil (plainX_star p2 _ _)) (plainX_star p1 _ _)).run pos pins s σ H _ I h) fun us s1 ⟨vs, H1, I1, r1, a, b, k1, k2, ex, hq1, hq2, q⟩ => ?_) (plainX_star p1 _ _) (by rw [plainX_star p2]; rfl)))
  subst ex
  obtain ⟨u1, u2, rfl, ru1, ru2⟩ := r1.two
  cases ru1
  cases ru2
  obtain ⟨xs, hq1⟩ := hq1
  obtain ⟨ys, hq2⟩ := hq2
  obtain ⟨its, rv, pl⟩ := Inv.sqK I1 hq1
  obtain ⟨its2, rv2, pl2⟩ := Inv.sqK I1 hq2
  have hal := pl.lt
  have hbl := pl2.lt
  generalize hn : s1.heap.objs.size = n at *
  refine zip_begins2 (beginsK k1 a its.toArray) (beginsK k2 b its2.toArray) pl pl2 fun h' hz hTI hTO h1 h2 hsz hk => ?_
  rw [hn] at hz hTI hTO h1 h2 hsz ⊢
  refine wpAny_pyIter_zip hz ?_
  have I2 : Inv X pins σ H1 { s1 with heap := h' } := I1.kept (t' := s1.toks) hk
  have fr : ∀ c ∈ [n + 4, n + 2, n + 3, n, n + 1], FpOk X pins H1 c := fun c hc => by
    have hle : n ≤ c := by
      have e' : c = n + 4 ∨ c = n + 2 ∨ c = n + 3 ∨ c = n ∨ c = n + 1 := by simpa using hc
      rcases e' with z | z | z | z | z <;> (rw [z]; first | exact Nat.le_add_right _ _ | exact Nat.le_refl _)
    exact I1.fpOk (by rw [hn]; exact hle) (I1.hok.fresh (by rw [hn]; exact hle))
  have ne : ∀ {i j : Nat}, i ≠ j → (n + i : Nat) ≠ n + j := fun h e => h (Nat.add_left_cancel e)
  have na : ∀ j, a ≠ n + j := fun j => Nat.ne_of_lt (Nat.lt_of_lt_of_le hal (Nat.le_add_right n j))
  have nb : ∀ j, b ≠ n + j := fun j => Nat.ne_of_lt (Nat.lt_of_lt_of_le hbl (Nat.le_add_right n j))
  have S : ZipSep2 (n + 4) (n + 2) (n + 3) (n + 0) (n + 1) [n + 0, a] [n + 1, b] :=
    { TIz := ne (by decide), TOz := ne (by decide), TITO := ne (by decide), TIi1 := ne (by decide), mem1 := List.mem_cons_self,
      zf1 := by simp only [List.mem_cons, List.not_mem_nil, or_false, not_or]; exact ⟨ne (by decide), Ne.symm (na 4)⟩,
      Tf1 := by simp only [List.mem_cons, List.not_mem_nil, or_false, not_or]; exact ⟨ne (by decide), Ne.symm (na 3)⟩,
      TIi2 := ne (by decide), mem2 := List.mem_cons_self,
      zf2 := by simp only [List.mem_cons, List.not_mem_nil, or_false, not_or]; exact ⟨ne (by decide), Ne.symm (nb 4)⟩,
      Tf2 := by simp only [List.mem_cons, List.not_mem_nil, or_false, not_or]; exact ⟨ne (by decide), Ne.symm (nb 3)⟩,
      sep1_2 := by simp only [List.mem_cons, List.not_mem_nil, or_false, not_or]; exact ⟨ne (by decide), Ne.symm (nb 0)⟩,
      sep2_1 := by simp only [List.mem_cons, List.not_mem_nil, or_false, not_or]; exact ⟨ne (by decide), Ne.symm (na 1)⟩ }
  exact ⟨n + 4, [n + 4, n + 2, n + 3, n, n + 1], _, _, H1, rfl, I2, turn_zipK (k1 := k1) (k2 := k2) S (na 0) (nb 1), ⟨hz, hTI, ⟨_, _, hTO⟩, itO_is h1, itO_is h2⟩, fr, q⟩
section
variable {call : CallF} {XR : XRel} {n : Nat} {a b c : Ex} {es : Exs}
theorem zips_get : ∀ {xs ys : List D} {i : Nat} {d : D}, (zips xs ys)[i]? = some d → ∃ x y, xs[i]? = some x ∧ ys[i]? = some y ∧ d = .tuple [x, y]
  | [], _, _, _, h => by simp [zips] at h
  | _ :: _, [], _, _, h => by simp [zips] at h
  | x :: xs, y :: ys, 0, d, h => by simp [zips] at h; exact ⟨x, y, rfl, rfl, h.symm⟩
  | x :: xs, y :: ys, i + 1, d, h => by
    obtain ⟨u, v, h1, h2, h3⟩ := zips_get (xs := xs) (ys := ys) (i := i) (by simpa [zips] using h)
    exact ⟨u, v, by simpa using h1, by simpa using h2, h3⟩
theorem zips_length : ∀ {xs ys : List D}, (zips xs ys).length = min xs.length ys.length
  | [], _ => by simp [zips]
  | _ :: _, [] => by simp [zips]
  | x :: xs, y :: ys => by
    show (zips xs ys).length + 1 = _
    rw [zips_length, List.length_cons, List.length_cons]
    omega
theorem Ps.walkK {K : PySem.W.Frag} {B T T1 : Addr → Prop} {H H1 : Hp} {fps fps1 : Nat → List Addr} {σ : L2.St} {r : R} {e1 : Env} {v : V} {fp : List Addr} {xs : List D} (p : Ps K B H T fps σ r e1 v H1 T1 fps1 fp) (hw : walked r = some xs) :
    ∃ a k, v = .ref a ∧ ∀ H2 T2 fps2, WExt B H1 T1 fps1 H2 T2 fps2 → ∃ vs, SqK K H2 k a vs ∧ RpAll K H2 T2 vs xs := by
  obtain ⟨a, rfl, h | h⟩ := p.walk hw
  · exact ⟨a, false, rfl, h.2⟩
  · exact ⟨a, true, rfl, h.2⟩
theorem evi_zip (ha : EvP call XR n a) (hb : EvP call XR n b) : EvIP call XR n (.zip a b) := fun X W G tg x ht hp => by
  unfold trI at ht
  split at ht
  · simp only [Bool.and_eq_true] at ht
    obtain ⟨⟨hg, h1⟩, h2⟩ := ht
    obtain ⟨rfl, g1, g2⟩ := gl_blt G hg (mem_blt (by decide))
    have htg := hp rfl
    cases tg <;> first | (cases htg; done) | skip
    refine ⟨PI.imp (pi_zipK g1 g2 (ha.pe G h1) (hb.pe G h2) (tr_plainX h1) (tr_plainX h2)) fun σ H R ⟨T, B, fps, e, f, q⟩ => ?_, rfl⟩
    refine ⟨T, B, fps, e, f, (OutOk.bind q).mono (fun ra e1 q v H1 T1 fps1 fp p => ?_) fun _ _ q => q⟩
    refine ⟨T1, B, fps1, e1, p.fm, (OutOk.bind q).mono (fun rb e2 q w H2 T2 fps2 fp2 p2 => ?_) fun _ _ q => q.trans p.ext⟩
    obtain ⟨xs, hx, q⟩ := q.of_liftB
    obtain ⟨ys, hy, q⟩ := q.of_liftB
    obtain ⟨a, k1, rfl, w1⟩ := p.walkK hx
    obtain ⟨b, k2, rfl, w2⟩ := p2.walkK hy
    obtain ⟨vs, s1, _⟩ := w1 H2 T2 fps2 p2.ext.weak
    obtain ⟨us, s2, _⟩ := w2 H2 T2 fps2 .refl
    refine ⟨a, b, k1, k2, rfl, ⟨vs, s1⟩, ⟨us, s2⟩, q _ H2 T2 fps2 (p.ext.trans p2.ext) p2.fm fun H3 T3 fps3 x3 i => ?_⟩
    obtain ⟨vs, s1, r1⟩ := w1 H3 T3 fps3 (p2.ext.weak.trans x3)
    obtain ⟨us, s2, r2⟩ := w2 H3 T3 fps3 x3
    refine ⟨fun hl => ⟨vs, us, s1, s2, ?_⟩, fun d hd => ?_⟩
    · rw [zips_length] at hl
      rw [r1.length, r2.length]
      omega
    · obtain ⟨x, y, hx, hy, rfl⟩ := zips_get hd
      obtain ⟨v1, hv1, rv1⟩ := r1.get hx
      obtain ⟨v2, hv2, rv2⟩ := r2.get hy
      refine ⟨⟨vs, us, v1, v2, s1, s2, hv1, hv2⟩, fun z H' hz => ?_⟩
      obtain ⟨p', x', y', rfl, hn, rfl, hall1, hall2⟩ := hz
      have e1 := hall1 vs s1
      have e2 := hall2 us s2
      rw [hv1] at e1
      rw [hv2] at e2
      cases e1
      cases e2
      exact ⟨.inr ⟨p', _, hn, rfl⟩, p', _, _, _, _, rfl, .inl (.inl upd_same), rfl, rv1.keep (.new hn fun _ h => h), rv2.keep (.new hn fun _ h => h)⟩
  · cases ht
end
end MP
end

section
set_option autoImplicit false
set_option linter.all false
set_option maxRecDepth 100000
/-! Soundness of raise. -/
namespace MP
open PySem PySem.Spec PyProof.Rows L2
theorem heap_let {H : Hp} {a d : Addr} {o1 o2 o3 o4 : HO} (h : H a = none) : upd (del (upd (upd (upd H a o1) d o2) a o3) a) d o4 = upd H d o4 := by
  funext b
  by_cases hb : b = d
  · subst hb
    rw [upd_same, upd_same]
  · rw [upd_ne hb, upd_ne hb]
    by_cases hba : b = a
    · subst hba
      rw [del_same, h]
    · rw [del_ne hba, upd_ne hba, upd_ne hb, upd_ne hba]
theorem trs_star {N : List Str} {sc : Scope} {pos : Pos} {env : PySem.Env} : ∀ {xs : List Expr} {es : Exs}, trs N es sc xs = true → (backTo pos (starEach xs env)).any (·.1) = false
  | [], _, _ => rfl
  | x :: xs, es, h => by
    unfold trs at h
    cases es with
    | nil => cases h
    | cons a r =>
      rw [Bool.and_eq_true] at h
      exact star_any (tr_plainX h.1) (trs_star h.2)
/-- an exception's own values -/
theorem ok_immut {k : XKind} {ds : List D} (h : k.ok ds = true) : ds.all immut = true := by
  unfold XKind.ok at h
  split at h <;> first | rfl | (simp only [List.all_cons, List.all_nil, Bool.and_true]; exact h) | cases h
theorem ok_base {ds : List D} : ¬ XKind.base.ok ds = true := by
  unfold XKind.ok
  intro h
  split at h <;> first | (cases h; done) | simp_all
theorem okV_of {K : PySem.W.Frag} {H : Hp} {T : Addr → Prop} {k : XKind} {vs : List V} {ds : List D} (r : RpAll K H T vs ds) (h : k.ok ds = true) : okV k vs := by
  unfold XKind.ok at h
  split at h
  · cases r with | cons r1 r2 => cases r2; cases r1; exact ⟨_, rfl, of_decide_eq_true h⟩
  · cases r with | cons r1 r2 => cases r2 with | cons r2 r3 => cases r3; cases r1; cases r2; exact ⟨_, _, _, rfl, of_decide_eq_true h, .inr (.inl ⟨rfl, rfl⟩), by decide⟩
  · simp only [Bool.and_eq_true, decide_eq_true_eq] at h
    cases r with | cons r1 r2 => cases r2 with | cons r2 r3 => cases r3; cases r1; cases r2; exact ⟨_, _, _, rfl, h.1.1, .inr (.inr ⟨_, rfl, h.1.2, rfl⟩), h.2⟩
  · simp only [Bool.and_eq_true, decide_eq_true_eq] at h
    cases r with | cons r1 r2 => cases r2 with | cons r2 r3 => cases r3; cases r1; cases r2; exact ⟨_, _, _, rfl, h.1, .inl rfl, h.2⟩
  · simp only [Bool.and_eq_true, decide_eq_true_eq] at h
    cases r with | cons r1 r2 => cases r2 with | cons r2 r3 => cases r3; cases r1; cases r2; exact ⟨_, _, rfl, h.1.1, h.1.2, h.2⟩
  · cases r with | cons r1 r2 => cases r2; exact ⟨_, rfl⟩
  · cases h
theorem PS.of_false {X : Cx} {s : Stmt} {t : TS} (h : ∀ D σ H, t D σ H → False) : PS X s t := ⟨fun pins s σ H D I q => (h D σ H q).elim⟩
theorem PE.of_false {X : Cx} {s : Expr} {t : TE} (h : ∀ σ H Q, t σ H Q → False) : PE X s t := ⟨fun pins s σ H Q I q => (h σ H Q q).elim⟩
section
variable {call : CallF} {XR : XRel} {n : Nat} {io : List Nat} {es : Exs}
theorem ex_raise (c : String) (hs : EvsP call XR n es) : ExP call XR n io (.raise c es) := fun X W G st ht => by
  unfold trS at ht
  split at ht
  · rename_i x p y ys pos pos'
    rw [Bool.and_eq_true] at ht
    obtain ⟨hg0, h2⟩ := ht
    obtain ⟨rfl, hg, hdb⟩ := gl_of hg0
    cases hc : call.cls c with
    | none =>
      refine PS.of_false fun D σ H ⟨T, B, fps, e, f, q⟩ => ?_
      have q : OutOk (exec call io (.raise c es) e) _ _ := q
      unfold exec at q
      rw [hc] at q
      exact q
    | some i =>
      by_cases hb : i.kind = .base
      · refine PS.of_false fun D σ H ⟨T, B, fps, e, f, q⟩ => ?_
        have q : OutOk (exec call io (.raise c es) e) _ _ := q
        unfold exec at q
        rw [hc] at q
        dsimp only at q
        rw [if_pos hb] at q
        exact q
      obtain ⟨C, hm, hr⟩ := G.g.xs.at_ c i hc
      have R := hr hb
      obtain ⟨fI, fd, ps, i1, i2, i3, i4⟩ := R.ini
      have py : plainX y = true := by
        unfold trs at h2
        cases es with
        | nil => cases h2
        | cons a r => rw [Bool.and_eq_true] at h2; exact tr_plainX h2.1
      have ph : (backTo pos (starEach ys X.env)).any (·.1) = false := by
        unfold trs at h2
        cases es with
        | nil => cases h2
        | cons a r => rw [Bool.and_eq_true] at h2; exact trs_star h2.2
      have room : Room 2 X.A := G.g.room.mono (by omega)
      have pm := pmk_oex (x := Str.ofString c) (p := p) (pos := pos) (dvs := []) (ds := []) R.T i1 i2 i4 room i3 .nil passL hg hm (hs X W G.g _ h2) hdb (plainX_star py _ _) ph
      refine PS.imp (ps_raise (pos := pos') G.g.calm G.g.tk pm) fun D σ H ⟨T, B, fps, e, f, q⟩ => ?_
      have q : OutOk (exec call io (.raise c es) e) _ _ := q
      unfold exec at q
      rw [hc] at q
      dsimp only at q
      rw [if_neg hb] at q
      refine ⟨T, B, fps, e, f, (OutOk.bind q).mono (fun ds e1 q vs H1 T1 fps1 x1 f1 r1 => ?_) fun _ _ q => eArmS.toE q⟩
      obtain ⟨⟨hok, hl⟩, q⟩ := q.of_ifP
      have hv := okV_of r1 hok
      have hlen : vs.length = i.flds.length := by rw [r1.length, hl]
      have h3 : vs.length ≤ 3 := by
        unfold okV at hv
        split at hv
        · exact hv.elim
        · obtain ⟨_, rfl, _⟩ := hv; simp
        · obtain ⟨_, _, _, rfl, _⟩ := hv; simp
        · obtain ⟨_, _, rfl, _⟩ := hv; simp
        · obtain ⟨_, rfl⟩ := hv; simp
      refine ⟨by omega, fun a ha => ⟨a, vs, by rw [List.append_nil], hlen, hv, upd_same .., fun dx nn ne => ⟨rfl, dx, fldsOf i.flds vs, upd_same .., ?_, ?_, ?_⟩⟩⟩
      · rw [upd_ne ne, upd_same]
      · rwa [upd_ne ne] at nn
      · rw [heap_let ha]
        have hd : H1 dx = none := by rwa [upd_ne ne] at nn
        refine q σ _ T1 fps1 (x1.trans (Ext.new hd)).sx (f1.new hd) .refl _ _ ?_
        rw [G.g.xs.xr]
        exact ⟨i, C, dx, vs, hc, hb, hm, rfl, rfl, upd_same .., hlen, RqAll.immutAll (ok_immut hok) (r1.keep (.new hd fun _ z => z))⟩
  · cases ht
end
end MP
end

section
set_option autoImplicit false
set_option linter.all false
set_option maxRecDepth 100000
/-! Soundness of except suites, 1: their expressions. -/
namespace MP
open PySem PySem.Spec PyProof.Rows L2
/-- what a suite's context has -/
structure HX (X : Cx) (cls : String → Option XCls) : Prop where
  blt : ∀ x ∈ bltNames, X.mg x = none
  hu : X.A.units + 66 < cLine
  xs : ∃ XR, XOk X.prog X.w X.K X.mg X.base cls XR
/-- the caught exception -/
structure Cg (K : PySem.W.Frag) (mg : Str → Option Value) (cls : String → Option XCls) (xi : Option Nat) (a : Addr) (x : Exn) (cv : Value) (d : Option Addr) (σ : L2.St) (H : Hp) : Prop where
  xr : XRof K mg cls x cv d H
  at_ : ∀ i, xi = some i → σ[i]? = some (some (.ref a))
section
variable (K : PySem.W.Frag) (mg : Str → Option Value) (cls : String → Option XCls) (xi : Option Nat) (a : Addr) (x : Exn) (cv : Value) (d : Option Addr)
def rdHV (o : Env → Option D) : TE := fun σ H Q => ∃ T B fps e r, Fm K H T B fps σ e ∧ Cg K mg cls xi a x cv d σ H ∧ o e = some r ∧ ∀ v H' T' fps', Ext B H T fps H' T' fps' → Fm K H' T' B fps' σ e → Rp K H' T' v r → Q v H'
def rdHT (o : Env → Option Bool) : TT := fun σ H Q => ∃ T B fps e r, Fm K H T B fps σ e ∧ Cg K mg cls xi a x cv d σ H ∧ o e = some r ∧ ∀ H' T' fps', Ext B H T fps H' T' fps' → Fm K H' T' B fps' σ e → Q r H'
end
def htru (cls : String → Option XCls) (x : Exn) (h : HEx) (e : Env) : Option Bool := (hev cls x e h).bind truthy
structure HP (X : Cx) (cls : String → Option XCls) (a : Addr) (oe : Obj) (cv : Value) (d : Option Addr) (pn : List (Addr × Obj)) (x : Exn) (xi : Option Nat) (h : HEx) (y : Expr) : Prop where
  pe : PE (X.suite a ((a, oe) :: pn)) y (rdHV X.K X.mg cls xi a x cv d fun e => hev cls x e h)
  pt : PT (X.suite a ((a, oe) :: pn)) y (rdHT X.K X.mg cls xi a x cv d (htru cls x h))
  pw : isBoolOp y = true → PW (X.suite a ((a, oe) :: pn)) y (rdHT X.K X.mg cls xi a x cv d (htru cls x h))
section
variable {X : Cx} {cls : String → Option XCls} {a : Addr} {oe : Obj} {cv : Value} {d : Option Addr} {pn : List (Addr × Obj)} {x : Exn} {xi : Option Nat}
theorem Cg.ext {K : PySem.W.Frag} {mg : Str → Option Value} {σ : L2.St} {H H1 : Hp} {B T T1 : Addr → Prop} {fps fps1 : Nat → List Addr} {e : Env} (c : Cg K mg cls xi a x cv d σ H) (f : Fm K H T B fps σ e) (q : Ext B H T fps H1 T1 fps1) : Cg K mg cls xi a x cv d σ H1 :=
  ⟨c.xr.ext f q, c.at_⟩
theorem rdHV_T {K : PySem.W.Frag} {mg : Str → Option Value} {h : HEx} {σ : L2.St} {H : Hp} {Q : Bool → Hp → Prop} (q : rdHT K mg cls xi a x cv d (htru cls x h) σ H Q) : rdHV K mg cls xi a x cv d (fun e => hev cls x e h) σ H fun v H1 => ∃ k, TruV K v H1 k ∧ Q k H1 := by
  obtain ⟨T, B, fps, e, r, f, c, ho, q⟩ := q
  obtain ⟨dd, h1, h2⟩ := Option.bind_eq_some_iff.mp ho
  exact ⟨T, B, fps, e, dd, f, c, h1, fun v H' T' fps' x' f' r' => ⟨r, Rp.tru r' h2, q H' T' fps' x' f'⟩⟩
theorem HP.plain {h : HEx} {y : Expr} (hp : plainT y = true) (q : PE (X.suite a ((a, oe) :: pn)) y (rdHV X.K X.mg cls xi a x cv d fun e => hev cls x e h)) : HP X cls a oe cv d pn x xi h y :=
  ⟨q, PT.imp (pt_truth q (isTrue_of_plain hp _)) fun _ _ _ z => rdHV_T z, fun z => by cases y <;> first | (cases z; done) | (cases hp; done)⟩
theorem trHE_plainX {N : List Str} {xi : Option Nat} {m : HEx} {sc : Scope} {x : Expr} (h : trHE N xi m sc x = true) : plainX x = true := by
  cases x with
  | Slice a b c p => cases m <;> (unfold trHE at h; cases h)
  | Starred a p => cases m <;> (unfold trHE at h; cases h)
  | Set a k p => cases m <;> (unfold trHE at h; cases h)
  | Call f as ks p =>
    cases f with
    | Name g q =>
      cases as with
      | nil =>
        cases ks with
        | nil => cases m <;> (unfold trHE at h; cases h)
        | cons _ _ => rfl
      | cons _ _ => rfl
    | _ => rfl
  | _ => rfl
theorem h_lit (dd : D) {y : Expr} (hx : HX X cls) (ht : trHE X.N xi (.lit dd) X.env.scope y = true) : HP X cls a oe cv d pn x xi (.lit dd) y := by
  unfold trHE at ht
  split at ht
  · rename_i c k pos
    refine HP.plain rfl ?_
    have fin : ∀ {v : V}, (∀ K H T, Rp K H T v dd) → ∀ (σ : L2.St) (H : Hp) (Q : VK), rdHV X.K X.mg cls xi a x cv d (fun e => hev cls x e (.lit dd)) σ H Q → Q v H := fun {v} hr σ H Q ⟨T, B, fps, e, r, f, c, ho, q⟩ => by
      cases (show some dd = some r from ho)
      exact q v H T fps .refl f (hr _ _ _)
    cases dd with
    | none => cases c <;> first | (cases ht; done) | exact PE.imp pe_non fun σ H Q q => fin (fun _ _ _ => .non) σ H Q q
    | bool a => cases c <;> first | (cases ht; done) | (obtain rfl := eq_of_beq ht; exact PE.imp pe_bl fun σ H Q q => fin (fun _ _ _ => .bl _) σ H Q q)
    | int a => cases c <;> first | (cases ht; done) | (obtain rfl := eq_of_beq ht; exact PE.imp pe_int fun σ H Q q => fin (fun _ _ _ => .int _) σ H Q q)
    | str a => cases c <;> first | (cases ht; done) | (obtain rfl := of_decide_eq_true ht; exact PE.imp pe_str fun σ H Q q => fin (fun _ _ _ => .str _) σ H Q q)
    | _ => cases c <;> cases ht
  · cases ht
theorem pe_nameS {i : Nat} {y : Str} {pos : Pos} (h : nm X.N X.env.scope i y = true) : PE (X.suite a pn) (.Name y pos) (tVar i) :=
  let ⟨h1, h2, h3, h4⟩ := nm_of h
  pe_var (X := X.suite a pn) h1 h2 h3 h4
theorem h_var (i : Nat) {y : Expr} (hx : HX X cls) (ht : trHE X.N xi (.var i) X.env.scope y = true) : HP X cls a oe cv d pn x xi (.var i) y := by
  unfold trHE at ht
  split at ht
  · refine HP.plain rfl (PE.imp (pe_nameS ht) fun σ H Q ⟨T, B, fps, e, r, f, c, ho, q⟩ => ?_)
    have ho : (match slot e i with | .v d => some d | .b d => if immut d = true then some d else none | _ => none) = some r := ho
    have hs := f.sl i
    cases hq : slot e i with
    | v d' =>
      rw [hq] at ho hs
      cases ho
      obtain ⟨_, v, h1, h2⟩ := hs
      exact ⟨v, h1, q v H T fps .refl f h2⟩
    | b d' =>
      rw [hq] at ho hs
      obtain ⟨hi, er⟩ := some_if ho
      subst er
      obtain ⟨_, v, h1, h2⟩ := hs
      exact ⟨v, h1, q v H T fps .refl f (h2.immut hi)⟩
    | u => rw [hq] at ho; cases ho
    | ol _ => rw [hq] at ho; cases ho
    | ol2 _ => rw [hq] at ho; cases ho
  · cases ht
theorem lookup_cons' {α : Type} (k : Str) (v : α) (l : List (Str × α)) (y : Str) : ((k, v) :: l).lookup y = if y = k then some v else l.lookup y := by
  rw [List.lookup_cons]
  by_cases h : y = k
  · subst h; simp
  · rw [if_neg h, beq_eq_false_iff_ne.mpr h]
theorem flds_aux {K : PySem.W.Frag} {H : Hp} {T : Addr → Prop} {kl : Prop} {y : Str} : ∀ {us : List V} {ds : List D}, RqAll K H T kl us ds → ∀ (ks : List Str) (lu : List (Str × V)) (ld : List (Str × D)),
    (∀ r, ld.lookup y = some r → ∃ v, lu.lookup y = some v ∧ Rq K H T kl v r) → ∀ r, (List.reverseAux (ks.zip ds) ld).lookup y = some r → ∃ v, (List.reverseAux (ks.zip us) lu).lookup y = some v ∧ Rq K H T kl v r
  | _, _, .nil, ks, lu, ld, h, r, e => by
    rw [List.zip_nil_right] at e ⊢
    exact h r e
  | _, _, .cons _ _, [], lu, ld, h, r, e => h r e
  | _, _, .cons (v := v) (d := d) r1 r2, k :: ks, lu, ld, h, r, e => by
    rw [List.zip_cons_cons] at e ⊢
    refine flds_aux r2 ks ((k, v) :: lu) ((k, d) :: ld) (fun r h1 => ?_) r e
    rw [lookup_cons'] at h1 ⊢
    by_cases hk : y = k
    · rw [if_pos hk] at h1 ⊢
      cases h1
      exact ⟨v, rfl, r1⟩
    · rw [if_neg hk] at h1 ⊢
      exact h r h1
theorem flds_mem {y : Str} {r : D} : ∀ (ks : List Str) (ds : List D) (ld : List (Str × D)), (List.reverseAux (ks.zip ds) ld).lookup y = some r → y ∈ ks ∨ ld.lookup y = some r
  | [], _, ld, e => .inr e
  | _ :: _, [], ld, e => .inr e
  | k :: ks, d :: ds, ld, e => by
    rcases flds_mem ks ds ((k, d) :: ld) e with h | h
    · exact .inl (List.mem_cons_of_mem _ h)
    · rw [lookup_cons'] at h
      by_cases hk : y = k
      · exact .inl (by rw [hk]; exact List.mem_cons_self)
      · rw [if_neg hk] at h; exact .inr h
theorem h_fld (g : String) {y : Expr} (hx : HX X cls) (hz : Zc cv d oe) (hf : ∃ vs, oe.data = .fields vs) (ht : trHE X.N xi (.fld g) X.env.scope y = true) : HP X cls a oe cv d pn x xi (.fld g) y := by
  unfold trHE at ht
  split at ht
  · rename_i y0 p0 m p1
    rw [Bool.and_eq_true, decide_eq_true_eq] at ht
    obtain ⟨h1, rfl⟩ := ht
    refine HP.plain rfl ?_
    cases xi with
    | none => cases h1
    | some j =>
      obtain ⟨XR, xs⟩ := hx.xs
      -- what the reading says, without the state
      by_cases hall : ∃ i C r, cls x.cls = some i ∧ i.kind ≠ .base ∧ X.mg (Str.ofString x.cls) = some (.ref C) ∧ fldOf i x g = some r
      · obtain ⟨i, C, r, hc, hk, hm, hfl⟩ := hall
        obtain ⟨C', hm', hR⟩ := xs.at_ _ _ hc
        rw [hm] at hm'
        cases hm'
        have R := hR hk
        have hno : PySem.W.findIn X.K (.ref C) (Str.ofString g) = some none := by
          have : fldOf i x g = (List.reverseAux ((i.flds.map Str.ofString).zip x.args) []).lookup (Str.ofString g) := rfl
          rw [this] at hfl
          rcases flds_mem _ _ _ hfl with z | z
          · obtain ⟨k, hk1, hk2⟩ := List.mem_map.mp z
            rw [← hk2]
            exact R.nof k hk1
          · cases z
        refine PE.imp (pe_xf (X := X) (C := C) R.xf hno hz hf (pe_nameS h1)) fun σ H Q ⟨T, B, fps, e, r', f, c, ho, q⟩ => ?_
        obtain ⟨i', C2, dx, us, e1, e2, e3, e4, e5, e6, e7, e8⟩ := c.xr
        rw [hc] at e1
        cases e1
        rw [hm] at e3
        cases e3
        have ho : ((cls x.cls).bind fun i => fldOf i x g) = some r' := ho
        rw [hc, Option.bind_some, hfl] at ho
        cases ho
        obtain ⟨v, hv, rv⟩ := flds_aux e8 (i.flds.map Str.ofString) [] [] (fun _ z => nomatch z) r hfl
        exact ⟨.ref a, c.at_ j rfl, rfl, e4, dx, _, v, e5, e6, hv, q v H T fps .refl f (rv.keep ⟨fun _ z => z.elim, fun _ _ z => z.elim, fun _ _ _ z => z⟩)⟩
      · refine PE.of_false fun σ H Q ⟨T, B, fps, e, r', f, c, ho, q⟩ => hall ?_
        obtain ⟨i', C2, dx, us, e1, e2, e3, e4, e5, e6, e7, e8⟩ := c.xr
        have ho : ((cls x.cls).bind fun i => fldOf i x g) = some r' := ho
        rw [e1, Option.bind_some] at ho
        exact ⟨i', C2, r', e1, e2, e3, ho⟩
  · cases ht
/-- isinstance(e, C), e the caught exception with its dict -/
theorem call_isX {C C' : Addr} {b : Bool} {i : XCls} (R : RaiseAt X.prog X.w X.K X.mg X.base C i) (hz : Zc (.ref C) d oe) (hf : ∃ vs, oe.data = .fields vs) (hk : PySem.W.kitOne X.K (.ref C) (.ref C') = some b) :
    CallR (X.suite a ((a, oe) :: pn)) (.builtin "isinstance") (fun xs H Q => xs = [.ref a, .ref C'] ∧ (∃ dd fs, d = some dd ∧ H dd = some (.xd fs)) ∧ Q (.bl b) H) := by
  intro pins s σ H xs us Q I r h
  obtain ⟨rfl, ⟨dd, fs, rfl, ed⟩, q⟩ := h
  cases r with
  | cons rx rr =>
    cases rr with
    | cons rt rr =>
      cases rr
      cases rx
      cases rt
      obtain ⟨hget, _⟩ := I.pin (a, oe) (List.mem_append.mpr (.inl List.mem_cons_self))
      obtain ⟨vs, hv⟩ := hf
      obtain ⟨mA, hns, hr⟩ : ObjOk X.prog X.w H s.heap dd (.xd fs) := I.hok dd _ ed
      obtain ⟨od, ho, hl⟩ := lookIn_ns hns
      have J : PySem.W.InstAt s.heap a oe C (some od) := ⟨hget, hz.1, by unfold PySem.W.notCls; rw [hv] <;> rfl, by rw [hz.2]; exact ho⟩
      exact PySem.W.kia_one (PySem.W.kitx_exc (od := some od) R.cl R.xf.ga R.xf.gg R.xf.exC R.ha R.hn R.ht R.hm) I.kIn J hk (fun z => nomatch z) fun tk => ⟨.bl b, H, I.kept (t' := tk) fun _ _ z => z, rfl, q⟩
theorem h_isC (g : String) {y : Expr} (hx : HX X cls) (hz : Zc cv d oe) (hf : ∃ vs, oe.data = .fields vs) (ht : trHE X.N xi (.isC g) X.env.scope y = true) : HP X cls a oe cv d pn x xi (.isC g) y := by
  unfold trHE at ht
  split at ht
  · rename_i f0 p0 y0 p1 t0 p2 p3
    simp only [Bool.and_eq_true] at ht
    obtain ⟨⟨h0, h1⟩, h2⟩ := ht
    refine HP.plain rfl ?_
    cases xi with
    | none => cases h1
    | some j =>
      obtain ⟨XR, xs⟩ := hx.xs
      by_cases hall : ∃ i i' C, cls x.cls = some i ∧ cls g = some i' ∧ i.kind ≠ .base ∧ X.mg (Str.ofString x.cls) = some (.ref C) ∧ cv = .ref C
      · obtain ⟨i, i', C, hc, hc', hk, hm, hcv⟩ := hall
        subst hcv
        obtain ⟨C2, hm2, hR⟩ := xs.at_ _ _ hc
        rw [hm] at hm2
        cases hm2
        obtain ⟨C', hm', _⟩ := xs.at_ _ _ hc'
        have kit := (xs.two _ _ _ _ _ _ hc hc' hk hm hm').2
        obtain ⟨rfl, g1, g2⟩ := gl_of h0
        obtain ⟨rfl, g3, g4⟩ := gl_of h2
        refine PE.imp (pe_callB (X := X.suite a ((a, oe) :: pn)) (call_isX (hR hk) hz hf kit) g1 (hx.blt _ (mem_blt (by decide))) boot_isinstance (pa_cons (pe_nameS h1) (pa_cons (pe_glob (X := X.suite a ((a, oe) :: pn)) (v := .ref C') (u := .ref C') g3 hm' rfl g4) pa_nil) (plainX_star rfl _ _)) (by decide) g2 (plainX_star rfl _ _) rfl)
          fun σ H Q ⟨T, B, fps, e, r', f, c, ho, q⟩ => ?_
        obtain ⟨i', C2, dx, us, e1, e2, e3, e4, e5, e6, e7, e8⟩ := c.xr
        have ho : ((cls x.cls).bind fun i => (cls g).map fun _ => PyData.bool (i.ups.contains g)) = some r' := ho
        rw [hc, hc', Option.bind_some, Option.map_some] at ho
        cases ho
        exact ⟨.ref a, c.at_ j rfl, rfl, ⟨dx, _, e5, e6⟩, q _ H T fps .refl f (.bl _)⟩
      · refine PE.of_false fun σ H Q ⟨T, B, fps, e, r', f, c, ho, q⟩ => hall ?_
        obtain ⟨i, C2, dx, us, e1, e2, e3, e4, e5, e6, e7, e8⟩ := c.xr
        have ho : ((cls x.cls).bind fun i => (cls g).map fun _ => PyData.bool (i.ups.contains g)) = some r' := ho
        rw [e1, Option.bind_some] at ho
        obtain ⟨i', h1, h2⟩ := Option.map_eq_some_iff.mp ho
        exact ⟨i, i', C2, e1, h1, e2, e3, e4⟩
  · cases ht
theorem h_not {m : HEx} {y : Expr} (ht : trHE X.N xi (.not m) X.env.scope y = true) (ih : ∀ y, trHE X.N xi m X.env.scope y = true → HP X cls a oe cv d pn x xi m y) : HP X cls a oe cv d pn x xi (.not m) y := by
  unfold trHE at ht
  split at ht
  · have I := ih _ ht
    refine ⟨PE.imp (pe_notT I.pe) fun σ H Q ⟨T, B, fps, e, r, f, c, ho, q⟩ => ?_, PT.imp (pt_not I.pt) fun σ H Q ⟨T, B, fps, e, r, f, c, ho, q⟩ => ?_, fun z => nomatch z⟩
    · obtain ⟨dd, h1, h2⟩ := Option.bind_eq_some_iff.mp (show (hev cls x e m).bind _ = some r from ho)
      obtain ⟨k, h3, rfl⟩ := Option.map_eq_some_iff.mp h2
      exact ⟨T, B, fps, e, dd, f, c, h1, fun v H' T' fps' x' f' r' => ⟨k, Rp.tru r' h3, q _ H' T' fps' x' f' (.bl _)⟩⟩
    · obtain ⟨d1, h0, h4⟩ := Option.bind_eq_some_iff.mp (show (hev cls x e (.not m)).bind truthy = some r from ho)
      obtain ⟨dd, h1, h2⟩ := Option.bind_eq_some_iff.mp (show (hev cls x e m).bind _ = some d1 from h0)
      obtain ⟨k, h3, rfl⟩ := Option.map_eq_some_iff.mp h2
      cases h4
      exact ⟨T, B, fps, e, k, f, c, by show (hev cls x e m).bind truthy = some k; rw [h1]; exact h3, fun H' T' fps' x' f' => q H' T' fps' x' f'⟩
  · cases ht
theorem h_tail {op : BoolOp} {m : HEx} {z : Expr} {rest : List Expr} {pos : Pos} (ih : ∀ y, trHE X.N xi m X.env.scope y = true → HP X cls a oe cv d pn x xi m y) (ht : (match rest with | [] => trHE X.N xi m X.env.scope z | _ :: _ => trHE X.N xi m X.env.scope (.BoolOp op (z :: rest) pos)) = true) :
    PE (X.suite a ((a, oe) :: pn)) (.BoolOp op (z :: rest) pos) (rdHV X.K X.mg cls xi a x cv d fun e => hev cls x e m) ∧ PW (X.suite a ((a, oe) :: pn)) (.BoolOp op (z :: rest) pos) (rdHT X.K X.mg cls xi a x cv d (htru cls x m)) := by
  cases rest with
  | nil =>
    refine ⟨pe_one (ih _ ht).pe, ?_⟩
    cases op with
    | And => exact pw_and1 (ih _ ht).pt
    | Or => exact pw_or1 (ih _ ht).pt
  | cons y ys => exact ⟨(ih _ ht).pe, (ih _ ht).pw rfl⟩
theorem h_and {m m2 : HEx} {y : Expr} (ht : trHE X.N xi (.and m m2) X.env.scope y = true) (ih : ∀ y, trHE X.N xi m X.env.scope y = true → HP X cls a oe cv d pn x xi m y) (ih2 : ∀ y, trHE X.N xi m2 X.env.scope y = true → HP X cls a oe cv d pn x xi m2 y) : HP X cls a oe cv d pn x xi (.and m m2) y := by
  unfold trHE at ht
  split at ht
  · rename_i y z rest pos
    rw [Bool.and_eq_true] at ht
    obtain ⟨t1, t2⟩ := h_tail (op := .And) (pos := pos) ih2 ht.2
    have I := ih _ ht.1
    have hw : PW (X.suite a ((a, oe) :: pn)) (.BoolOp .And (y :: z :: rest) pos) (rdHT X.K X.mg cls xi a x cv d (htru cls x (.and m m2))) := PW.imp (pw_and I.pt t2) fun σ H Q ⟨T, B, fps, e, r, f, c, ho, q⟩ => by
      obtain ⟨d1, h0, h4⟩ := Option.bind_eq_some_iff.mp (show (hev cls x e (.and m m2)).bind truthy = some r from ho)
      obtain ⟨dd, h1, h2⟩ := Option.bind_eq_some_iff.mp (show (hev cls x e m).bind _ = some d1 from h0)
      obtain ⟨k, h3, h5⟩ := Option.bind_eq_some_iff.mp h2
      refine ⟨T, B, fps, e, k, f, c, by show (hev cls x e m).bind truthy = some k; rw [h1]; exact h3, fun H' T' fps' x' f' => ?_⟩
      cases k with
      | true => exact ⟨T', B, fps', e, r, f', c.ext f x', by show (hev cls x e m2).bind truthy = some r; rw [show hev cls x e m2 = some d1 from h5]; exact h4, fun H2 T2 fps2 x2 f2 => q H2 T2 fps2 (x'.trans x2) f2⟩
      | false =>
        have e1 : dd = d1 := Option.some.inj h5
        subst e1
        rw [h4] at h3
        cases h3
        exact q H' T' fps' x' f'
    refine ⟨PE.imp (pe_andT I.pe t1) fun σ H Q ⟨T, B, fps, e, r, f, c, ho, q⟩ => ?_, hw.pt, fun _ => hw⟩
    obtain ⟨dd, h1, h2⟩ := Option.bind_eq_some_iff.mp (show (hev cls x e m).bind _ = some r from ho)
    obtain ⟨k, h3, h5⟩ := Option.bind_eq_some_iff.mp h2
    refine ⟨T, B, fps, e, dd, f, c, h1, fun v H' T' fps' x' f' r' => ⟨k, Rp.tru r' h3, ?_⟩⟩
    cases k with
    | true => exact ⟨T', B, fps', e, r, f', c.ext f x', h5, fun w H2 T2 fps2 x2 f2 r2 => q w H2 T2 fps2 (x'.trans x2) f2 r2⟩
    | false =>
      have e1 : dd = r := Option.some.inj h5
      subst e1
      exact q v H' T' fps' x' f' r'
  · cases ht
theorem h_or {m m2 : HEx} {y : Expr} (ht : trHE X.N xi (.or m m2) X.env.scope y = true) (ih : ∀ y, trHE X.N xi m X.env.scope y = true → HP X cls a oe cv d pn x xi m y) (ih2 : ∀ y, trHE X.N xi m2 X.env.scope y = true → HP X cls a oe cv d pn x xi m2 y) : HP X cls a oe cv d pn x xi (.or m m2) y := by
  unfold trHE at ht
  split at ht
  · rename_i y z rest pos
    rw [Bool.and_eq_true] at ht
    obtain ⟨t1, t2⟩ := h_tail (op := .Or) (pos := pos) ih2 ht.2
    have I := ih _ ht.1
    have hw : PW (X.suite a ((a, oe) :: pn)) (.BoolOp .Or (y :: z :: rest) pos) (rdHT X.K X.mg cls xi a x cv d (htru cls x (.or m m2))) := PW.imp (pw_or I.pt t2) fun σ H Q ⟨T, B, fps, e, r, f, c, ho, q⟩ => by
      obtain ⟨d1, h0, h4⟩ := Option.bind_eq_some_iff.mp (show (hev cls x e (.or m m2)).bind truthy = some r from ho)
      obtain ⟨dd, h1, h2⟩ := Option.bind_eq_some_iff.mp (show (hev cls x e m).bind _ = some d1 from h0)
      obtain ⟨k, h3, h5⟩ := Option.bind_eq_some_iff.mp h2
      refine ⟨T, B, fps, e, k, f, c, by show (hev cls x e m).bind truthy = some k; rw [h1]; exact h3, fun H' T' fps' x' f' => ?_⟩
      cases k with
      | false => exact ⟨T', B, fps', e, r, f', c.ext f x', by show (hev cls x e m2).bind truthy = some r; rw [show hev cls x e m2 = some d1 from h5]; exact h4, fun H2 T2 fps2 x2 f2 => q H2 T2 fps2 (x'.trans x2) f2⟩
      | true =>
        have e1 : dd = d1 := Option.some.inj h5
        subst e1
        rw [h4] at h3
        cases h3
        exact q H' T' fps' x' f'
    refine ⟨PE.imp (pe_orT I.pe t1) fun σ H Q ⟨T, B, fps, e, r, f, c, ho, q⟩ => ?_, hw.pt, fun _ => hw⟩
    obtain ⟨dd, h1, h2⟩ := Option.bind_eq_some_iff.mp (show (hev cls x e m).bind _ = some r from ho)
    obtain ⟨k, h3, h5⟩ := Option.bind_eq_some_iff.mp h2
    refine ⟨T, B, fps, e, dd, f, c, h1, fun v H' T' fps' x' f' r' => ⟨k, Rp.tru r' h3, ?_⟩⟩
    cases k with
    | false => exact ⟨T', B, fps', e, r, f', c.ext f x', h5, fun w H2 T2 fps2 x2 f2 r2 => q w H2 T2 fps2 (x'.trans x2) f2 r2⟩
    | true =>
      have e1 : dd = r := Option.some.inj h5
      subst e1
      exact q v H' T' fps' x' f' r'
  · cases ht
theorem h_cmp (o : COp) {m m2 : HEx} {y : Expr} (hx : HX X cls) (ht : trHE X.N xi (.cmp o m m2) X.env.scope y = true) (ih : ∀ y, trHE X.N xi m X.env.scope y = true → HP X cls a oe cv d pn x xi m y) (ih2 : ∀ y, trHE X.N xi m2 X.env.scope y = true → HP X cls a oe cv d pn x xi m2 y) : HP X cls a oe cv d pn x xi (.cmp o m m2) y := by
  unfold trHE at ht
  split at ht
  · rename_i y op z pos
    simp only [Bool.and_eq_true, decide_eq_true_eq] at ht
    obtain ⟨⟨rfl, h1⟩, h2⟩ := ht
    have hm := plainX_in (op := copOf o) (trHE_plainX h2)
    have ho := op_cmpD (X := X.suite a ((a, oe) :: pn)) hx.hu o
    have rd : ∀ (σ : L2.St) (H : Hp) (Q : VK), rdHV X.K X.mg cls xi a x cv d (fun e => hev cls x e (.cmp o m m2)) σ H Q → tOp (rCmpD X.K o) (rdHV X.K X.mg cls xi a x cv d fun e => hev cls x e m) (rdHV X.K X.mg cls xi a x cv d fun e => hev cls x e m2) σ H Q := fun σ H Q ⟨T, B, fps, e, r, f, c, ho, q⟩ => by
      obtain ⟨d1, e1, h3⟩ := Option.bind_eq_some_iff.mp (show (hev cls x e m).bind _ = some r from ho)
      obtain ⟨d2, e2, h4⟩ := Option.bind_eq_some_iff.mp h3
      obtain ⟨k, e3, rfl⟩ := Option.map_eq_some_iff.mp h4
      refine ⟨T, B, fps, e, d1, f, c, e1, fun v H1 T1 fps1 x1 f1 r1 => ⟨T1, B, fps1, e, d2, f1, c.ext f x1, e2, fun u H2 T2 fps2 x2 f2 r2 => ?_⟩⟩
      exact ⟨d1, d2, k, (r1.keep x2.kept).dp, r2.dp, e3, q _ H2 T2 fps2 (x1.trans x2) f2 (.bl _)⟩
    refine ⟨PE.imp (pe_cmpR ho (ih _ h1).pe (ih2 _ h2).pe hm) rd, PT.imp (pt_cmpR ho (ih _ h1).pe (ih2 _ h2).pe hm) fun σ H Q ⟨T, B, fps, e, r, f, c, ho, q⟩ => rd σ H _ ?_, fun z => nomatch z⟩
    obtain ⟨d0, h0, h5⟩ := Option.bind_eq_some_iff.mp (show (hev cls x e (.cmp o m m2)).bind truthy = some r from ho)
    refine ⟨T, B, fps, e, d0, f, c, h0, fun v H1 T1 fps1 x1 f1 r1 => ?_⟩
    obtain ⟨d1, e1, h3⟩ := Option.bind_eq_some_iff.mp (show (hev cls x e m).bind _ = some d0 from h0)
    obtain ⟨d2, e2, h4⟩ := Option.bind_eq_some_iff.mp h3
    obtain ⟨k, e3, rfl⟩ := Option.map_eq_some_iff.mp h4
    cases h5
    cases r1
    exact ⟨_, rfl, q H1 T1 fps1 x1 f1⟩
  · cases ht
theorem h_ife {m m1 m2 : HEx} {y : Expr} (ht : trHE X.N xi (.ife m m1 m2) X.env.scope y = true) (ih : ∀ y, trHE X.N xi m X.env.scope y = true → HP X cls a oe cv d pn x xi m y) (ih1 : ∀ y, trHE X.N xi m1 X.env.scope y = true → HP X cls a oe cv d pn x xi m1 y) (ih2 : ∀ y, trHE X.N xi m2 X.env.scope y = true → HP X cls a oe cv d pn x xi m2 y) : HP X cls a oe cv d pn x xi (.ife m m1 m2) y := by
  unfold trHE at ht
  split at ht
  · rename_i w y z pos
    simp only [Bool.and_eq_true] at ht
    obtain ⟨⟨h1, h2⟩, h3⟩ := ht
    refine ⟨PE.imp (pe_ifExp (ih _ h1).pt (ih1 _ h2).pe (ih2 _ h3).pe) fun σ H Q ⟨T, B, fps, e, r, f, c, ho, q⟩ => ?_, PT.imp (pt_ifExp (ih _ h1).pt (ih1 _ h2).pt (ih2 _ h3).pt) fun σ H Q ⟨T, B, fps, e, r, f, c, ho, q⟩ => ?_, fun z => nomatch z⟩
    · obtain ⟨dd, e1, h4⟩ := Option.bind_eq_some_iff.mp (show (hev cls x e m).bind _ = some r from ho)
      obtain ⟨k, e2, h5⟩ := Option.bind_eq_some_iff.mp h4
      refine ⟨T, B, fps, e, k, f, c, by show (hev cls x e m).bind truthy = some k; rw [e1]; exact e2, fun H' T' fps' x' f' => ?_⟩
      cases k with
      | true => exact ⟨T', B, fps', e, r, f', c.ext f x', h5, fun w H2 T2 fps2 x2 f2 r2 => q w H2 T2 fps2 (x'.trans x2) f2 r2⟩
      | false => exact ⟨T', B, fps', e, r, f', c.ext f x', h5, fun w H2 T2 fps2 x2 f2 r2 => q w H2 T2 fps2 (x'.trans x2) f2 r2⟩
    · obtain ⟨d0, h0, h6⟩ := Option.bind_eq_some_iff.mp (show (hev cls x e (.ife m m1 m2)).bind truthy = some r from ho)
      obtain ⟨dd, e1, h4⟩ := Option.bind_eq_some_iff.mp (show (hev cls x e m).bind _ = some d0 from h0)
      obtain ⟨k, e2, h5⟩ := Option.bind_eq_some_iff.mp h4
      refine ⟨T, B, fps, e, k, f, c, by show (hev cls x e m).bind truthy = some k; rw [e1]; exact e2, fun H' T' fps' x' f' => ?_⟩
      cases k with
      | true => exact ⟨T', B, fps', e, r, f', c.ext f x', by show (hev cls x e m1).bind truthy = some r; rw [show hev cls x e m1 = some d0 from h5]; exact h6, fun H2 T2 fps2 x2 f2 => q H2 T2 fps2 (x'.trans x2) f2⟩
      | false => exact ⟨T', B, fps', e, r, f', c.ext f x', by show (hev cls x e m2).bind truthy = some r; rw [show hev cls x e m2 = some d0 from h5]; exact h6, fun H2 T2 fps2 x2 f2 => q H2 T2 fps2 (x'.trans x2) f2⟩
  · cases ht
theorem new_tupH {σ : L2.St} {H : Hp} {Q : VK} {B T T' : Addr → Prop} {H' : Hp} {fps fps' : Nat → List Addr} {e : Env} {ds : List D} {vs : List V} {K : PySem.W.Frag} (q : ∀ v H1 T1 fps1, Ext B H T fps H1 T1 fps1 → Fm K H1 T1 B fps1 σ e → Rp K H1 T1 v (.tuple ds) → Q v H1)
    (x : Ext B H T fps H' T' fps') (f : Fm K H' T' B fps' σ e) (r : RpAll K H' T' vs ds) : NewT vs H' Q := fun p its n hp =>
  q _ _ T' fps' (x.trans (.new hp)) (f.new hp) (.tup (.inl ⟨its, n, upd_same⟩) (r.keep (.new hp fun _ h => h)))
theorem h_nil {y : Expr} (ht : trHE X.N xi .nil X.env.scope y = true) : HP X cls a oe cv d pn x xi .nil y := by
  unfold trHE at ht
  split at ht
  · refine HP.plain rfl (PE.imp (pe_tupF pa_nil) fun σ H Q ⟨T, B, fps, e, r, f, c, ho, q⟩ => ?_)
    cases (show some (PyData.tuple []) = some r from ho)
    exact ⟨Nat.zero_le _, new_tupH q .refl f .nil⟩
  · cases ht
theorem h_tup1 {m : HEx} {y : Expr} (ht : trHE X.N xi (.tup1 m) X.env.scope y = true) (ih : ∀ y, trHE X.N xi m X.env.scope y = true → HP X cls a oe cv d pn x xi m y) : HP X cls a oe cv d pn x xi (.tup1 m) y := by
  unfold trHE at ht
  split at ht
  · refine HP.plain rfl (PE.imp (pe_tupF (pa_cons (ih _ ht).pe pa_nil (plainX_star (trHE_plainX ht) _ _))) fun σ H Q ⟨T, B, fps, e, r, f, c, ho, q⟩ => ?_)
    obtain ⟨d1, e1, rfl⟩ := Option.map_eq_some_iff.mp (show (hev cls x e m).map _ = some r from ho)
    exact ⟨T, B, fps, e, d1, f, c, e1, fun v H1 T1 fps1 x1 f1 r1 => ⟨by show 1 ≤ sizeLine; decide, new_tupH q x1 f1 (.one r1)⟩⟩
  · cases ht
theorem h_tup2 {m m2 : HEx} {y : Expr} (ht : trHE X.N xi (.tup2 m m2) X.env.scope y = true) (ih : ∀ y, trHE X.N xi m X.env.scope y = true → HP X cls a oe cv d pn x xi m y) (ih2 : ∀ y, trHE X.N xi m2 X.env.scope y = true → HP X cls a oe cv d pn x xi m2 y) : HP X cls a oe cv d pn x xi (.tup2 m m2) y := by
  unfold trHE at ht
  split at ht
  · rw [Bool.and_eq_true] at ht
    refine HP.plain rfl (PE.imp (pe_tupF (pa_cons (ih _ ht.1).pe (pa_cons (ih2 _ ht.2).pe pa_nil (plainX_star (trHE_plainX ht.2) _ _)) (plainX_star (trHE_plainX ht.1) _ _))) fun σ H Q ⟨T, B, fps, e, r, f, c, ho, q⟩ => ?_)
    obtain ⟨d1, e1, h3⟩ := Option.bind_eq_some_iff.mp (show (hev cls x e m).bind _ = some r from ho)
    obtain ⟨d2, e2, rfl⟩ := Option.map_eq_some_iff.mp h3
    exact ⟨T, B, fps, e, d1, f, c, e1, fun v H1 T1 fps1 x1 f1 r1 => ⟨T1, B, fps1, e, d2, f1, c.ext f x1, e2, fun u H2 T2 fps2 x2 f2 r2 => ⟨by show 2 ≤ sizeLine; decide, new_tupH q (x1.trans x2) f2 (.cons (r1.keep x2.kept) (.one r2))⟩⟩⟩
  · cases ht
theorem h_all (hx : HX X cls) (hz : Zc cv d oe) (hf : ∃ vs, oe.data = .fields vs) : ∀ (m : HEx) (y : Expr), trHE X.N xi m X.env.scope y = true → HP X cls a oe cv d pn x xi m y
  | .lit dd, y, ht => h_lit dd hx ht
  | .var i, y, ht => h_var i hx ht
  | .fld g, y, ht => h_fld g hx hz hf ht
  | .isC g, y, ht => h_isC g hx hz hf ht
  | .not m, y, ht => h_not ht (h_all hx hz hf m)
  | .and m m2, y, ht => h_and ht (h_all hx hz hf m) (h_all hx hz hf m2)
  | .or m m2, y, ht => h_or ht (h_all hx hz hf m) (h_all hx hz hf m2)
  | .cmp o m m2, y, ht => h_cmp o hx ht (h_all hx hz hf m) (h_all hx hz hf m2)
  | .ife m m1 m2, y, ht => h_ife ht (h_all hx hz hf m) (h_all hx hz hf m1) (h_all hx hz hf m2)
  | .nil, y, ht => h_nil ht
  | .tup1 m, y, ht => h_tup1 ht (h_all hx hz hf m)
  | .tup2 m m2, y, ht => h_tup2 ht (h_all hx hz hf m) (h_all hx hz hf m2)
/-! ### suites -/
def rdHS (K : PySem.W.Frag) (mg : Str → Option Value) (cls : String → Option XCls) (xi : Option Nat) (a : Addr) (x : Exn) (cv : Value) (d : Option Addr) (o : Env → Option (Option PyData)) : TS := fun D σ H => ∃ T B fps e r, Fm K H T B fps σ e ∧ Cg K mg cls xi a x cv d σ H ∧ o e = some r ∧ match r with
  | none => ∀ H' T' fps', Ext B H T fps H' T' fps' → Fm K H' T' B fps' σ e → D.nx σ H'
  | some dd => ∀ v H' T' fps', Ext B H T fps H' T' fps' → Fm K H' T' B fps' σ e → Rp K H' T' v dd → D.rt v H'
theorem PSs.impH {st : List Stmt} {t t' : TS} (h : PSs X st t) (hi : ∀ D σ H, t' D σ H → t D σ H) : PSs X st t' := ⟨fun pins s σ H D I hw => h.run pins s σ H D I (hi D σ H hw)⟩
mutual
theorem hs_all (hx : HX X cls) (hz : Zc cv d oe) (hf : ∃ vs, oe.data = .fields vs) : ∀ (m : HSt) (y : Stmt), trHs X.N X.env.scope xi m y = true → PS (X.suite a ((a, oe) :: pn)) y (rdHS X.K X.mg cls xi a x cv d fun e => hst cls x e m)
  | .ret h, y, ht => by
    unfold trHs at ht
    split at ht
    · refine PS.imp (ps_ret (h_all (pn := pn) (a := a) (x := x) hx hz hf h _ ht).pe) fun D σ H ⟨T, B, fps, e, r, f, c, ho, q⟩ => ?_
      obtain ⟨d1, e1, rfl⟩ := Option.map_eq_some_iff.mp (show (hev cls x e h).map some = some r from ho)
      exact ⟨T, B, fps, e, d1, f, c, e1, q⟩
    · cases ht
  | .ite h s1 s2, y, ht => by
    unfold trHs at ht
    split at ht
    · simp only [Bool.and_eq_true] at ht
      obtain ⟨⟨h1, h2⟩, h3⟩ := ht
      refine PS.imp (ps_if (h_all (pn := pn) (a := a) (x := x) hx hz hf h _ h1).pt (hss_all hx hz hf s1 _ h2) (hss_all hx hz hf s2 _ h3)) fun D σ H ⟨T, B, fps, e, r, f, c, ho, q⟩ => ?_
      obtain ⟨d1, e1, h4⟩ := Option.bind_eq_some_iff.mp (show (hev cls x e h).bind _ = some r from ho)
      obtain ⟨k, e2, h5⟩ := Option.bind_eq_some_iff.mp h4
      refine ⟨T, B, fps, e, k, f, c, by show (hev cls x e h).bind truthy = some k; rw [e1]; exact e2, fun H' T' fps' x' f' => ?_⟩
      cases k with
      | true =>
        refine ⟨T', B, fps', e, r, f', c.ext f x', h5, ?_⟩
        cases r with
        | none => exact fun H2 T2 fps2 x2 f2 => q H2 T2 fps2 (x'.trans x2) f2
        | some dd => exact fun v H2 T2 fps2 x2 f2 r2 => q v H2 T2 fps2 (x'.trans x2) f2 r2
      | false =>
        refine ⟨T', B, fps', e, r, f', c.ext f x', h5, ?_⟩
        cases r with
        | none => exact fun H2 T2 fps2 x2 f2 => q H2 T2 fps2 (x'.trans x2) f2
        | some dd => exact fun v H2 T2 fps2 x2 f2 r2 => q v H2 T2 fps2 (x'.trans x2) f2 r2
    · cases ht
theorem hss_all (hx : HX X cls) (hz : Zc cv d oe) (hf : ∃ vs, oe.data = .fields vs) : ∀ (m : HSs) (y : List Stmt), trHss X.N X.env.scope xi m y = true → PSs (X.suite a ((a, oe) :: pn)) y (rdHS X.K X.mg cls xi a x cv d fun e => hss cls x e m)
  | .nil, y, ht => by
    unfold trHss at ht
    cases y with
    | nil =>
      refine PSs.imp pss_nil fun D σ H ⟨T, B, fps, e, r, f, c, ho, q⟩ => ?_
      cases (show some (none : Option PyData) = some r from ho)
      exact q H T fps .refl f
    | cons _ _ => cases ht
  | .cons s ss, y, ht => by
    unfold trHss at ht
    cases y with
    | nil => cases ht
    | cons y ys =>
      rw [Bool.and_eq_true] at ht
      refine PSs.imp (pss_cons (hs_all hx hz hf s _ ht.1) (hss_all hx hz hf ss _ ht.2)) fun D σ H ⟨T, B, fps, e, r, f, c, ho, q⟩ => ?_
      obtain ⟨r1, e1, h4⟩ := Option.bind_eq_some_iff.mp (show (hst cls x e s).bind _ = some r from ho)
      refine ⟨T, B, fps, e, r1, f, c, e1, ?_⟩
      cases r1 with
      | some dd =>
        cases (show some (some dd) = some r from h4)
        exact q
      | none =>
        intro H' T' fps' x' f'
        refine ⟨T', B, fps', e, r, f', c.ext f x', h4, ?_⟩
        cases r with
        | none => exact fun H2 T2 fps2 x2 f2 => q H2 T2 fps2 (x'.trans x2) f2
        | some dd => exact fun v H2 T2 fps2 x2 f2 r2 => q v H2 T2 fps2 (x'.trans x2) f2 r2
end
end
end MP
end

section
set_option autoImplicit false
set_option linter.all false
set_option maxRecDepth 100000
/-! Soundness of try .. except. -/
namespace MP
open PySem PySem.Spec PyProof.Rows L2
section
variable {call : CallF} {XR : XRel} {n : Nat} {io : List Nat} {b : Sts}
theorem Gs.hx {X : Cx} {W : WX} (G : Gs X call XR W n) : HX X call.cls := ⟨G.g.blt, G.g.hu, XR, G.g.xs⟩
theorem Gs.tr {X : Cx} {W W' : WX} (G : Gs X call XR W n) {pn : List (Addr × Obj)} {xe : Value → Shared → Prop} (tk : Takes (X.tr pn xe) W') (own : PassesOwn (model X.prog X.w) X.A X.env xe) : Gs (X.tr pn xe) call XR W' n :=
  ⟨⟨G.g.nd, G.g.calm, G.g.blt, G.g.room, tk, G.g.con, G.g.xs, G.g.calls⟩, own, G.kind, G.fn, G.stk, G.frm⟩
/-- a suite's reading, whatever exception it has -/
def tsH (K : PySem.W.Frag) (mg : Str → Option Value) (cls : String → Option XCls) (xi : Option Nat) (h : HSs) (a : Addr) (cv : Value) (d : Option Addr) : TS := fun D σ H => ∃ x, rdHS K mg cls xi a x cv d (fun e => hss cls x e h) D σ H
theorem suite_ok {X : Cx} {W : WX} (G : Gs X call XR W n) {xi : Option Nat} {h : HSs} {st : List Stmt} (ht : trHss X.N X.env.scope xi h st = true) (a : Addr) (oe : Obj) (cv : Value) (d : Option Addr) (pn : List (Addr × Obj)) (hz : Zc cv d oe) (hf : ∃ vs, oe.data = .fields vs) :
    PSs (X.suite a ((a, oe) :: pn)) st (tsH X.K X.mg call.cls xi h a cv d) :=
  ⟨fun pins s σ H D I ⟨x, q⟩ => (hss_all (x := x) G.hx hz hf h st ht).run pins s σ H D I q⟩
/-- an exception of the body, seen from the clauses -/
theorem exm_of {X : Cx} {W : WX} (G : Gs X call XR W n) {c : String} {x : Exn} {cv : Value} {d : Option Addr} {H : Hp} {k : Bool} {C' : Addr} (r : XR x cv d H) (hk : catches call.cls c x = some k) (hm : X.mg (Str.ofString c) = some (.ref C')) : PySem.W.exmOne X.K cv (.ref C') = some k := by
  rw [G.g.xs.xr] at r
  obtain ⟨i, C, dx, us, e1, e2, e3, e4, e5, e6, e7, e8⟩ := r
  unfold catches at hk
  rw [e1, Option.bind_some] at hk
  obtain ⟨i', h1, rfl⟩ := Option.map_eq_some_iff.mp hk
  rw [e4]
  exact (G.g.xs.two _ _ _ _ _ _ e1 h1 e2 e3 hm).1
theorem Gs.cls_at {X : Cx} {W : WX} (G : Gs X call XR W n) {c : String} {x : Exn} {k : Bool} (hk : catches call.cls c x = some k) : ∃ C', X.mg (Str.ofString c) = some (.ref C') := by
  unfold catches at hk
  obtain ⟨i, _, hk⟩ := Option.bind_eq_some_iff.mp hk
  obtain ⟨i', h1, _⟩ := Option.map_eq_some_iff.mp hk
  obtain ⟨C, h2, _⟩ := G.g.xs.at_ _ _ h1
  exact ⟨C, h2⟩
/-- what a suite hands on -/
theorem suite_out {K : PySem.W.Frag} {mg : Str → Option Value} {cls : String → Option XCls} {x : Exn} {cv : Value} {d : Option Addr} {W : WX} {D D' : Ends} {B T T' : Addr → Prop} {H H' : Hp} {fps fps' : Nat → List Addr} {σ σ' : L2.St} {e : Env} {xi : Option Nat} {h : HSs} {a : Addr}
    (q : OutOk (suiteOut e (hss cls x e h)) (flOk K io D B H T fps σ) (eArmS K XR W io B H T fps σ)) (sx : Sx io B H T fps H' T' fps') (f : Fm K H' T' B fps' σ' e) (sm : Same io σ σ') (c : Cg K mg cls xi a x cv d σ' H')
    (hrt : D'.rt = D.rt) (hn : ∀ (H2 : Hp) (T2 : Addr → Prop) (fps2 : Nat → List Addr), Ext B H' T' fps' H2 T2 fps2 → Fm K H2 T2 B fps2 σ' e → (∀ σ3 H3 T3 fps3, Sx io B H T fps H3 T3 fps3 → Fm K H3 T3 B fps3 σ3 e → Same io σ σ3 → D.nx σ3 H3) → D'.nx σ' H2) :
    tsH K mg cls xi h a cv d D' σ' H' := by
  refine ⟨x, ?_⟩
  cases hr : hss cls x e h with
  | none => rw [hr] at q; exact q.elim
  | some r =>
    rw [hr] at q
    refine ⟨T', B, fps', e, r, f, c, hr, ?_⟩
    cases r with
    | none => exact fun H2 T2 fps2 x2 f2 => hn H2 T2 fps2 x2 f2 q
    | some dd =>
      intro v H2 T2 fps2 x2 f2 r2
      rw [hrt]
      exact q v σ' H2 T2 fps2 [] (sx.trans x2.sx) f2 sm ⟨⟨rfl, r2⟩, rfl, List.nodup_nil, fun _ z => nomatch z⟩
/-- slot i holds nothing of ours from now on -/
theorem Fm.drop {K : PySem.W.Frag} {B T : Addr → Prop} {H : Hp} {fps : Nat → List Addr} {σ : L2.St} {e : Env} (f : Fm K H T B fps σ e) (i : Nat) (z : Option V) : Fm K H T B (fpSet fps i []) (σ.set i z) (e.set i .u) ∧ Ext B H T fps H T (fpSet fps i []) := by
  refine ⟨?_, Ext.own fun _ h => nomatch h⟩
  by_cases hi : i < e.length
  · exact f.set hi (by simp) (fun j hj => by rw [List.getElem?_set_ne (Ne.symm hj)]) rfl List.nodup_nil (fun _ z => nomatch z) (fun _ z => nomatch z) (fun _ z => nomatch z)
  · rw [set_out hi, set_out (by rw [f.len]; exact hi)]
    have h0 : fps i = [] := by
      have := f.sl i
      rw [slot_out hi] at this
      exact this
    have : fpSet fps i [] = fps := by
      funext j
      by_cases hj : j = i
      · subst hj; rw [fpSet_same, h0]
      · rw [fpSet_ne hj]
    rw [this]
    exact f
theorem trHd_one {N : List Str} {sc : Scope} {c : String} {hs : HSs} {xs : List ExceptHandler} (h : trHd N sc (.one c hs) xs = true) : ∃ x np b suite pos', xs = [.ExceptHandler (some (.Name x np)) none (b :: suite) pos'] ∧ gl sc x c = true ∧ trHss N sc none hs (b :: suite) = true := by
  simp only [trHd] at h
  split at h
  · rw [Bool.and_eq_true] at h
    exact ⟨_, _, _, _, _, rfl, h⟩
  · cases h
theorem trHd_named {N : List Str} {sc : Scope} {c : String} {i : Nat} {hs : HSs} {xs : List ExceptHandler} (h : trHd N sc (.named c i hs) xs = true) : ∃ x np y b suite pos', xs = [.ExceptHandler (some (.Name x np)) (some y) (b :: suite) pos'] ∧ gl sc x c = true ∧ N[i]? = some y ∧ isLoc sc y = true ∧ trHss N sc (some i) hs (b :: suite) = true := by
  simp only [trHd] at h
  split at h
  · simp only [Bool.and_eq_true, decide_eq_true_eq] at h
    exact ⟨_, _, _, _, _, _, rfl, h.1.1.1, h.1.1.2, h.1.2, h.2⟩
  · cases h
theorem trHd_two {N : List Str} {sc : Scope} {c c2 : String} {hs hs2 : HSs} {xs : List ExceptHandler} (h : trHd N sc (.two c hs c2 hs2) xs = true) : ∃ x np b suite pos' x2 np2 b2 suite2 pos2, xs = [.ExceptHandler (some (.Name x np)) none (b :: suite) pos', .ExceptHandler (some (.Name x2 np2)) none (b2 :: suite2) pos2] ∧
    gl sc x c = true ∧ trHss N sc none hs (b :: suite) = true ∧ gl sc x2 c2 = true ∧ trHss N sc none hs2 (b2 :: suite2) = true := by
  simp only [trHd] at h
  split at h
  · simp only [Bool.and_eq_true] at h
    exact ⟨_, _, _, _, _, _, _, _, _, _, rfl, h.1.1.1, h.1.1.2, h.1.2, h.2⟩
  · cases h
theorem known_at {X : Cx} {W : WX} (G : Gs X call XR W n) {c : String} (hk : (call.cls c).isSome = true) : ∃ C', X.mg (Str.ofString c) = some (.ref C') := by
  obtain ⟨i, hi⟩ := Option.isSome_iff_exists.mp hk
  obtain ⟨C, h2, _⟩ := G.g.xs.at_ _ _ hi
  exact ⟨C, h2⟩
theorem ex_try (hb : ExsP call XR n io b) (h : Hds) : ExP call XR n io (.try b h) := fun X W G st ht => by
  unfold trS at ht
  split at ht
  · rename_i body hds pos
    rw [Bool.and_eq_true] at ht
    obtain ⟨h1, h2⟩ := ht
    have body_ok : ∀ (W' : WX) (pn : List (Addr × Obj)) (xe : Value → Shared → Prop), Takes (X.tr pn xe) W' → PassesOwn (model X.prog X.w) X.A X.env xe → PSs (X.tr pn xe) body (rdS X.K XR W' io (execs call io b)) :=
      fun W' pn xe tk own => hb (X.tr pn xe) W' (G.tr tk own) _ h1
    by_cases hkn : h.known call.cls = true
    case neg =>
      refine PS.of_false fun D σ H ⟨T, B, fps, e, f, q⟩ => ?_
      have q : OutOk (exec call io (.try b h) e) _ _ := q
      unfold exec at q
      rw [if_neg hkn] at q
      exact q
    have pass : ∀ {D : Ends} {σ : L2.St} {H : Hp} {B T : Addr → Prop} {fps : Nat → List Addr} {e : Env} {W' : WX}, OutOk (exec call io (.try b h) e) (flOk X.K io D B H T fps σ) (eArmS X.K XR W io B H T fps σ) →
        (∀ x e', OutOk (handle io call.cls x e' h) (flOk X.K io D B H T fps σ) (eArmS X.K XR W io B H T fps σ) → eArmS X.K XR W' io B H T fps σ x e') → OutOk (execs call io b e) (flOk X.K io D B H T fps σ) (eArmS X.K XR W' io B H T fps σ) := fun {D σ H B T fps e W'} q hx => by
      unfold exec at q
      rw [if_pos hkn] at q
      cases hq : execs call io b e with
      | bad => rw [hq] at q; exact q.elim
      | ok fl e' => rw [hq] at q; exact q
      | exc x e' => rw [hq] at q; exact hx x e' q
    cases h with
    | one c hs =>
      obtain ⟨x, np, b0, suite, pos', rfl, g0, h3⟩ := trHd_one h2
      obtain ⟨rfl, g1, g2⟩ := gl_of g0
      obtain ⟨C', hm⟩ := known_at G hkn
      refine PS.imp (ps_try_only (Wout := W) (tb := fun W' => rdS X.K XR W' io (execs call io b)) (ts := tsH X.K X.mg call.cls none hs) G.stk G.frm ⟨g1, g2, .inl hm⟩ G.g.tk body_ok fun a oe cls d pn hz hf => suite_ok G h3 a oe cls d pn hz hf) fun D σ H ⟨T, B, fps, e, f, q⟩ => ?_
      refine ⟨T, B, fps, e, f, pass q fun x e' q σ' H' T' fps' sx fm same cls d r => ?_⟩
      simp only [handle] at q
      have r' := r
      rw [G.g.xs.xr] at r'
      cases hk : catches call.cls c x with
      | none => rw [hk] at q; exact q.elim
      | some k =>
        rw [hk] at q
        refine ⟨k, exm_of G r hk hm, fun hy a ha => ?_, fun hn => ?_⟩
        · subst hy
          exact suite_out q sx fm same ⟨r', fun _ z => nomatch z⟩ rfl fun H2 T2 fps2 x2 f2 q => q σ' H2 T2 fps2 (sx.trans x2.sx) f2 same
        · subst hn
          exact q σ' H' T' fps' sx fm same cls d r
    | named c i hs =>
      obtain ⟨x, np, y, b0, suite, pos', rfl, g0, hN, hl, h3⟩ := trHd_named h2
      obtain ⟨rfl, g1, g2⟩ := gl_of g0
      obtain ⟨C', hm⟩ := known_at G hkn
      refine PS.imp (ps_try_as (i := i) (Wout := W) (tb := fun W' => rdS X.K XR W' io (execs call io b)) (ts := tsH X.K X.mg call.cls (some i) hs) G.stk G.frm G.g.nd hN (loc_of hl) ⟨g1, g2, .inl hm⟩ G.g.tk body_ok fun a oe cls d pn hz hf => suite_ok G h3 a oe cls d pn hz hf) fun D σ H ⟨T, B, fps, e, f, q⟩ => ?_
      refine ⟨T, B, fps, e, f, pass q fun x e' q σ' H' T' fps' sx fm same cls d r => ?_⟩
      simp only [handle] at q
      have r' := r
      rw [G.g.xs.xr] at r'
      by_cases hio : io.contains i = true ∨ ¬ i < e'.length
      · rw [if_pos hio] at q; exact q.elim
      · rw [if_neg hio] at q
        obtain ⟨hio, hlt⟩ := not_or.mp hio
        have hlt : i < e'.length := Decidable.not_not.mp hlt
        have hni : i ∉ io := not_io (by simpa using hio)
        cases hk : catches call.cls c x with
        | none => rw [hk] at q; exact q.elim
        | some k =>
          rw [hk] at q
          refine ⟨k, exm_of G r hk hm, fun hy a ha => ?_, fun hn => ?_⟩
          · subst hy
            obtain ⟨f2, x2⟩ := fm.drop i (some (.ref a))
            refine suite_out q (sx.trans x2.sx) f2 (same.trans (.set hni)) ⟨r', fun j hj => ?_⟩ rfl fun H2 T2 fps2 x3 f3 q => ?_
            · cases hj
              rw [List.getElem?_set_self (by rw [fm.len]; exact hlt)]
            · obtain ⟨f4, x4⟩ := f3.drop i none
              rw [show (e'.set i MP.Slot.u).set i MP.Slot.u = e'.set i MP.Slot.u from List.set_set ..] at f4
              exact q _ H2 T2 _ (((sx.trans x2.sx).trans x3.sx).trans x4.sx) f4 ((same.trans (.set hni)).trans (.set hni))
          · subst hn
            exact q σ' H' T' fps' sx fm same cls d r
    | two c hs c2 hs2 =>
      obtain ⟨x, np, b0, suite, pos', x2, np2, b2, suite2, pos2, rfl, g0, h3, g0', h3'⟩ := trHd_two h2
      obtain ⟨rfl, g1, g2⟩ := gl_of g0
      obtain ⟨rfl, g3, g4⟩ := gl_of g0'
      rw [Hds.known, Bool.and_eq_true] at hkn
      obtain ⟨C', hm⟩ := known_at G hkn.1
      obtain ⟨C2, hm2⟩ := known_at G hkn.2
      refine PS.imp (ps_try_many (Wout := W) (tb := fun W' => rdS X.K XR W' io (execs call io b)) G.stk G.frm G.g.tk body_ok (.cons ⟨g1, g2, .inl hm⟩ (fun a oe cls d pn hz hf => suite_ok (xi := none) G h3 a oe cls d pn hz hf) (.cons ⟨g3, g4, .inl hm2⟩ (fun a oe cls d pn hz hf => suite_ok (xi := none) G h3' a oe cls d pn hz hf) .nil))) fun D σ H ⟨T, B, fps, e, f, q⟩ => ?_
      refine ⟨T, B, fps, e, f, pass q fun x e' q σ' H' T' fps' sx fm same cls d r => ?_⟩
      simp only [handle] at q
      have r' := r
      rw [G.g.xs.xr] at r'
      cases hk : catches call.cls c x with
      | none => rw [hk] at q; exact q.elim
      | some k =>
        rw [hk] at q
        refine ⟨k, exm_of G r hk hm, fun hy a ha => ?_, fun hn => ?_⟩
        · subst hy
          exact suite_out q sx fm same ⟨r', fun _ z => nomatch z⟩ rfl fun H2 T2 fps2 x2 f2 q => q σ' H2 T2 fps2 (sx.trans x2.sx) f2 same
        · subst hn
          cases hk2 : catches call.cls c2 x with
          | none => rw [hk2] at q; exact q.elim
          | some k2 =>
            rw [hk2] at q
            refine ⟨k2, exm_of G r hk2 hm2, fun hy a ha => ?_, fun hn => ?_⟩
            · subst hy
              exact suite_out q sx fm same ⟨r', fun _ z => nomatch z⟩ rfl fun H2 T2 fps2 x2 f2 q => q σ' H2 T2 fps2 (sx.trans x2.sx) f2 same
            · subst hn
              exact q σ' H' T' fps' sx fm same cls d r
  · cases ht
end
end MP
end

section
set_option autoImplicit false
set_option linter.all false
set_option maxRecDepth 100000
/-! Soundness: all expressions, all statements, defs. -/
namespace MP
open PySem PySem.Spec PyProof.Rows L2

section
variable {call : CallF} {XR : XRel} {n : Nat}
mutual
theorem sEx : ∀ m : Ex, EvP call XR n m
  | .lit d => ev_lit d
  | .glo x => ev_glo x
  | .var i => ev_var i
  | .pk i => ev_pk i
  | .tup es => ev_tup (sExs es).1
  | .lst es => ev_lst (sExs es).1
  | .bin o a b => ev_bin o (sEx a) (sEx b)
  | .neg a => ev_neg (sEx a)
  | .inv a => ev_inv (sEx a)
  | .not a => ev_not (sEx a)
  | .and a b => ev_and (sEx a) (sEx b)
  | .or a b => ev_or (sEx a) (sEx b)
  | .cmp o a b => ev_cmp o (sEx a) (sEx b)
  | .chain o p a b c => ev_chain o p (sEx a) (sEx b) (sEx c)
  | .ife c a b => ev_ife (sEx c) (sEx a) (sEx b)
  | .idx a i => ev_idx (sEx a) (sEx i)
  | .slc a lo hi => ev_slc (sEx a) (sEx lo) (sEx hi)
  | .rev a => ev_rev (sEx a)
  | .b1 f a => ev_b1 f (sEx a)
  | .b2 f a b => ev_b2 f (sEx a) (sEx b)
  | .count a e => ev_count (sEx a) (sEx e)
  | .call f es => ev_call f (sExs es).2
  | .io i => fun X W G x ht => by unfold tr at ht; cases ht
  | .app i e => ev_app i (sEx e)
  | .appNew i => ev_appNew i
  | .appAt i k e => ev_appAt i (sEx k) (sEx e)
  | .ext i e => ev_ext i (sEx e)
  | .pop i => ev_pop i
  | .popAt i k => ev_popAt i (sEx k)
  | .comp t it c a => ev_comp (sIt it).1 (sEx c) (sEx a)
  | .sortk t it k => fun X W G x ht => by unfold tr at ht; cases ht
  | .itL it => ev_itL (sIt it).2
  | .itT it => ev_itT (sIt it).2
theorem sExs : ∀ es : Exs, EvsP call XR n es ∧ EvAP call XR n es
  | .nil => ⟨evs_nil, eva_nil⟩
  | .cons a es => ⟨evs_cons (sEx a) (sExs es).1, eva_cons (fun _ => sEx a) (sExs es).2⟩
theorem sIt : ∀ it : It, EvIP call XR n it ∧ RgP call XR n it
  | .ex a => ⟨evi_ex (sEx a), rg_no fun _ _ _ => by unfold trR; rfl⟩
  | .range a => ⟨evi_range (sEx a), rg_1 (sEx a)⟩
  | .range2 a b => ⟨evi_range2 (sEx a) (sEx b), rg_2 (sEx a) (sEx b)⟩
  | .range3 a b c => ⟨evi_range3 (sEx a) (sEx b) (sEx c), rg_no fun _ _ _ => by unfold trR; rfl⟩
  | .enum a => ⟨evi_enum (sEx a), rg_no fun _ _ _ => by unfold trR; rfl⟩
  | .zip a b => ⟨evi_zip (sEx a) (sEx b), rg_no fun _ _ _ => by unfold trR; rfl⟩
end
variable {io : List Nat}
theorem sComp (a : Ex) : ∀ t it c b, a = .comp t it c b → EvIP call XR n it ∧ EvP call XR n c ∧ EvP call XR n b := fun _ it c b _ => ⟨(sIt it).1, sEx c, sEx b⟩
mutual
theorem sSt : ∀ m : St, ExP call XR n io m
  | .expr e => ex_expr (sEx e)
  | .raise c es => ex_raise c (sExs es).1
  | .try b h => ex_try (sSts b) h
  | .asg i e => ex_asg i (sEx e) (sComp e)
  | .asgO i e => ex_asgO i (sEx e) (sComp e)
  | .asgT is e => ex_asgT is (sEx e) fun es _ => (sExs es).1
  | .asgI i k e => ex_asgI i (sEx k) (sEx e)
  | .aug i o e => ex_aug i o (sEx e)
  | .augI i k o e => ex_augI i o (sEx k) (sEx e)
  | .ite c a b => ex_ite (sEx c) (sSts a) (sSts b)
  | .while c b => ex_while (sEx c) (sSts b)
  | .for t it b => ex_for (sIt it).1 (sSts b)
  | .ret e => ex_ret (sEx e)
  | .retN => ex_retN
  | .pass => ex_pass
theorem sSts : ∀ m : Sts, ExsP call XR n io m
  | .nil => exs_nil
  | .cons s ss => exs_cons (sSt s) (sSts ss)
end
end

/-! ### defs -/
/-- how a def of the text and a def of Mini go together -/
structure FnAt (P : Program) (w : World) (K : PySem.W.Frag) (mg : Str → Option Value) (f : String) (F : MFun) (fa : Addr) (fd : FuncData) (ps : List Str) : Prop where
  hm : mg (Str.ofString f) = some (.ref fa)
  hk : PySem.W.keepIn K (.ref fa) = true
  hb : BindsA K fd ps
  ex : ∃ (st : Stmt) (x qual : Str) (N : List Str), L2.Fun K x qual st fa fd ∧ FnScope N ps (defScope st) ∧ ps.length = F.params ∧ N.length = F.slots ∧ trSs N (defScope st) F.body (defBody st) = true
structure FnLk (P : Program) (w : World) (K : PySem.W.Frag) (mg : Str → Option Value) (f : String) (F : MFun) : Prop where
  ex : ∃ fa fd ps, FnAt P w K mg f F fa fd ps
structure Lk (P : Program) (w : World) (K : PySem.W.Frag) (mg : Str → Option Value) (base : Heap) (XR : XRel) (L : Table) : Prop where
  blt : ∀ x ∈ bltNames, mg x = none
  con : ∀ x d, L.con x = some d → ConAt K mg x d
  xs : XOk P w K mg base L.cls XR
  fn : ∀ f F, L.fn f = some F → FnLk P w K mg f F
section
variable {P : Program} {w : World} {K : PySem.W.Frag} {mg : Str → Option Value} {base : Heap} {XR : XRel} {L : Table}
theorem callN_con2 {n : Nat} : (callN L n).con = L.con := by cases n <;> rfl
theorem callN_cls2 {n : Nat} : (callN L n).cls = L.cls := by cases n <;> rfl
theorem slot_app {ss : Env} {m i : Nat} : slot (ss ++ List.replicate m MP.Slot.u) i = slot ss i := by
  unfold slot
  by_cases h : i < ss.length
  · rw [List.getElem?_append_left h]
  · rw [List.getElem?_append_right (by omega), List.getElem?_eq_none (l := ss) (by omega), List.getElem?_replicate]
    split <;> rfl
theorem slot_outs {F : MFun} {e : Env} {i : Nat} : slot (outsOf F e) i = if i < F.params ∧ F.io.contains i = true then slot e i else .u := by
  unfold outsOf
  unfold slot
  rw [List.getElem?_map]
  by_cases h : i < F.params
  · rw [List.getElem?_range h]
    by_cases hc : F.io.contains i = true
    · rw [if_pos ⟨h, hc⟩]
      show (if F.io.contains i = true then slot e i else MP.Slot.u) = _
      rw [if_pos hc]
      rfl
    · rw [if_neg (fun z => hc z.2)]
      show (if F.io.contains i = true then slot e i else MP.Slot.u) = _
      rw [if_neg hc]
  · rw [List.getElem?_eq_none (by simpa using h), if_neg (fun z => h z.1)]; rfl
theorem start_get {N : List Str} {vs : List V} {i : Nat} (h : i < vs.length) : (L2.start N vs)[i]? = (vs.map some)[i]? := by
  unfold L2.start
  rw [List.getElem?_append_left (by simpa using h)]
/-- a def of Mini's table, n + 1 deep -/
theorem fn_ok {n : Nat} (lk : Lk P w K mg base XR L) (ih : ∀ f g, (callN L n).fn f = some g → ∃ fa fd ps, mg (Str.ofString f) = some (.ref fa) ∧ PySem.W.keepIn K (.ref fa) = true ∧ BindsA K fd ps ∧ FnOk P w K mg base (L2.CX P w) (n + 2) fa fd ps (spF K XR g))
    {f : String} {F : MFun} {fa : Addr} {fd : FuncData} {ps : List Str} (hat : FnAt P w K mg f F fa fd ps) : FnOk P w K mg base (L2.CX P w) (n + 3) fa fd ps (spF K XR (runFun (callN L n) F)) := by
  obtain ⟨st, x, qual, N, hfun, S, hps, hN, htr⟩ := hat.ex
  refine hfun.okX S (fun vs H Q E h => ?_) fun cdv A outer s H vs Q E hr h => ?_
  · obtain ⟨T, B, fps, ss, fm, h⟩ := h
    by_cases hc : ss.length = F.params ∧ ((List.range F.params).all fun i => F.io.contains i || (slot ss i).notOwn) = true
    · have := fm.len
      rw [List.length_map] at this
      rw [this, hc.1, hps]
    · rw [show runFun (callN L n) F ss = .bad from if_neg hc] at h
      exact h.elim
  · obtain ⟨T, B, fps, ss, fm, h⟩ := h
    have hvs : vs.length = ss.length := by have := fm.len; rwa [List.length_map] at this
    have hc : ss.length = F.params ∧ ((List.range F.params).all fun i => F.io.contains i || (slot ss i).notOwn) = true := by
      by_cases hc : ss.length = F.params ∧ ((List.range F.params).all fun i => F.io.contains i || (slot ss i).notOwn) = true
      · exact hc
      · rw [show runFun (callN L n) F ss = .bad from if_neg hc] at h
        exact h.elim
    have hrun : runFun (callN L n) F ss = (match execs (callN L n) F.io F.body (ss ++ List.replicate (F.slots - F.params) .u) with
      | .ok .nx e => .ret (.st .none) (outsOf F e)
      | .ok (.rt r) e => .ret r (outsOf F e)
      | .exc x e => .exc x (outsOf F e)
      | .bad => .bad) := by
      unfold runFun
      rw [if_pos hc]
      all_goals rfl
    rw [hrun] at h
    have hkindA : (envOfC qual (defScope st) s.heap.objs.size fa cdv).scope.kind = .function := S.kind
    have G : Gs (cxOf (L2.CX P w) P w K mg base N qual (defScope st) fa cdv A outer s H E) (callN L n) XR (fun cls d _ H => E cls d H) n :=
      ⟨⟨S.nd, rfl, lk.blt, hr, takes_of rfl rfl rfl rfl, by rw [callN_con2]; exact lk.con, by rw [callN_cls2]; exact lk.xs, ih⟩, passes_of rfl, S.kind, fun _ => rfl, rfl, rfl⟩
    refine ⟨_, sSts (io := F.io) F.body _ _ G _ htr, ?_⟩
    -- its places: only those of io
    have fpn : ∀ i, F.io.contains i = false → fps i = [] := fun i hi => by
      have hs := fm.sl i
      have hno : (slot ss i).notOwn = true := by
        by_cases hlt : i < F.params
        · have := List.all_eq_true.mp hc.2 i (List.mem_range.mpr hlt)
          rw [hi] at this
          simpa using this
        · rw [slot_out (by omega)]; rfl
      cases hsl : slot ss i with
      | u => rw [hsl] at hs; exact hs
      | v d => rw [hsl] at hs; exact hs.1
      | b d => rw [hsl] at hs; exact hs.1
      | ol xs => rw [hsl] at hno; cases hno
      | ol2 xss => rw [hsl] at hno; cases hno
    have fm0 : Fm K H T B fps (L2.start N vs) (ss ++ List.replicate (F.slots - F.params) .u) := by
      refine ⟨?_, fun i => ?_, fm.nd, fm.dj, fm.dT, fm.dB, fm.td, fm.bd⟩
      · unfold L2.start
        rw [List.length_append, List.length_map, List.length_replicate, List.length_append, List.length_replicate, hN, hvs, hc.1]
      · rw [slot_app]
        by_cases hi : i < vs.length
        · rw [start_get hi]; exact fm.sl i
        · have := fm.sl i
          rw [slot_out (e := ss) (by omega)] at this ⊢
          exact this
    refine ⟨T, B, fps, _, fm0, ?_⟩
    -- what is handed back
    have outs : ∀ {σ' : L2.St} {H' : Hp} {T' : Addr → Prop} {fps' : Nat → List Addr} {e : Env}, Sx F.io B H T fps H' T' fps' → Fm K H' T' B fps' σ' e → Same F.io (L2.start N vs) σ' →
        Fm K H' T' B (fun i => if i < F.params ∧ F.io.contains i = true then fps' i else []) (vs.map some) (outsOf F e) ∧ Ext B H T fps H' T' (fun i => if i < F.params ∧ F.io.contains i = true then fps' i else []) := fun {σ' H' T' fps' e} x f sm => by
      have mem : ∀ {i a}, a ∈ (if i < F.params ∧ F.io.contains i = true then fps' i else []) → (i < F.params ∧ F.io.contains i = true) ∧ a ∈ fps' i := fun {i a} h => by
        split at h
        · exact ⟨‹_›, h⟩
        · cases h
      refine ⟨⟨?_, fun i => ?_, fun i => ?_, fun i j a h1 h2 => f.dj i j a (mem h1).2 (mem h2).2, fun i a h => f.dT i a (mem h).2, fun i a h => f.dB i a (mem h).2, f.td, f.bd⟩,
        ⟨x.w.t, x.w.keep, x.w.tb, x.w.frz, x.w.nT, fun a i h => x.i a i (by have := (mem h).1.2; simpa using this) (mem h).2, x.w.dm⟩⟩
      · unfold outsOf
        rw [List.length_map, List.length_map, List.length_range, hvs, hc.1]
      · rw [slot_outs]
        by_cases hi : i < F.params ∧ F.io.contains i = true
        · rw [if_pos hi, if_pos hi]
          have := f.sl i
          rw [sm i (by have := hi.2; simpa using this), start_get (by rw [hvs, hc.1]; exact hi.1)] at this
          exact this
        · rw [if_neg hi, if_neg hi]; rfl
      · split
        · exact f.nd i
        · exact List.nodup_nil
    cases hx : execs (callN L n) F.io F.body (ss ++ List.replicate (F.slots - F.params) .u) with
    | bad => rw [hx] at h; exact h.elim
    | exc z e =>
      rw [hx] at h
      intro σ' H' T' fps' x f sm cls d hxr
      obtain ⟨f2, x2⟩ := outs x f sm
      exact h H' T' _ x2 f2 cls d hxr
    | ok fl e =>
      rw [hx] at h
      cases fl with
      | nx =>
        intro σ' H' T' fps' x f sm
        obtain ⟨f2, x2⟩ := outs x f sm
        exact h .non H' T' _ [] (.st x2 f2 .non)
      | rt r =>
        intro v σ' H' T' fps' fp x f sm p
        obtain ⟨f2, x2⟩ := outs x f sm
        refine h v H' T' _ fp ⟨x2, f2, p.rr, p.nd, fun a ha => ?_⟩
        obtain ⟨n1, n2, n3, n4⟩ := p.nw a ha
        refine ⟨n1.elim id fun ⟨j, hj, z⟩ => ?_, n2, fun i z => ?_, n4⟩
        · rw [fpn j (by simpa using hj)] at z; cases z
        · split at z
          · exact n3 i z
          · cases z
/-- THE THEOREM: the table's defs do what Mini says -/
theorem fns_ok (lk : Lk P w K mg base XR L) : ∀ n f g, (callN L n).fn f = some g → ∃ fa fd ps, mg (Str.ofString f) = some (.ref fa) ∧ PySem.W.keepIn K (.ref fa) = true ∧ BindsA K fd ps ∧ FnOk P w K mg base (L2.CX P w) (n + 2) fa fd ps (spF K XR g)
  | 0, f, g, h => by cases h
  | n + 1, f, g, h => by
    obtain ⟨F, hF, rfl⟩ := Option.map_eq_some_iff.mp (show (L.fn f).map _ = some g from h)
    obtain ⟨fa, fd, ps, hat⟩ := (lk.fn f F hF).ex
    exact ⟨fa, fd, ps, hat.hm, hat.hk, hat.hb, fn_ok lk (fns_ok lk n) hat⟩
end
end MP
end

section
set_option autoImplicit false
set_option linter.all false
set_option maxRecDepth 100000
/-! A def that closes over __class__ and begins with super().__init__(..): an own exception's __init__. -/
namespace MP
open PySem PySem.Spec PyProof.Rows L2

section
variable {prog : Program} {w : World} {A : Around} {E : Value → Shared → Prop} {h : Heap} {g : Array GenState} {d : Drawn} {t : Nat} {os : OsState}
variable {nm q : Str} {C N : Addr} {bs bm bmB : List Value} {hdct : Bool} {sn : List Str} {sub : List Value} {ab : Bool} {col : Option Bool} {dd : Option Addr} {k0 k1 k2 k3 k5 : Option Value} {B newId initId : String}
/-- the wrapper of a built-in __init__ called -/
theorem call_wrap (FB : ExcBaseFacts B newId initId bmB) {u e t0 : Addr} {rest : List Value} {Q : Value → Shared → Prop}
    (hC : h.get? C = some (excClassObj nm q C N bs bm hdct sn sub ab col dd k0 k1 k2 k3 k5 newId)) (he : h.get? e = some (HandSPX.excO C t0)) (hu : h.get? u = some (PySem.W.kxs_mw initId e)) (hrest : rest.length ≤ sizeLine)
    (hq : ∀ h' t1, (∀ b o, b ≠ e → h.get? b = some o → h'.get? b = some o) → h'.get? e = some (HandSPX.excO C t1) → Q .none ⟨h', g, d, t, os⟩) :
    wpAny (model prog w) A (call (.ref u) rest) Q E ⟨h, g, d, t, os⟩ := by
  refine wpAny_call (codeAny_of_tree ?_)
  show wpAny _ A.in1 (callAny (.ref u) ⟨rest, []⟩) _ _ _
  simp only [callAny]
  refine wpAny_bind (wpAny_load hu ?_)
  simp only [PySem.W.kxs_mw, show (Value.type "method-wrapper" == Value.type "method" || Value.type "method-wrapper" == Value.type "builtin_function_or_method" || Value.type "method-wrapper" == Value.type "method-wrapper") = true by decide, if_true]
  refine PySem.W.KFB.if_so (by decide) ?_
  refine wpAny_bind (PySem.W.check_bound_init FB.toExcCallFacts hC he rfl ?_)
  refine wpAny_bind (wpAny_pure (wpAny_pure ?_))
  refine ⟨plainId_quiet FB.init.plain _, codeAny_builtin FB.initEntry ?_⟩
  rw [Around.under_plainId FB.init.plain _]
  exact PySem.W.exc_init_tree (cls := .ref C) (t0 := t0) (dv := none) (c2 := .none) (c3 := .none) (b4 := .bool false) he hrest fun h' k e' _ => hq h' _ k e'
end
/-! ### the context of such a def -/
abbrev supEnv (qual : Str) (scope : Scope) (L f : Addr) (cd : Value) (cc : Addr) : PySem.Env := PySem.W.ksEnv qual scope L f cd cc
def cxSup (CX : CXT) (P : Program) (w : World) (K : PySem.W.Frag) (mg : Str → Option Value) (base : Heap) (N : List Str) (qual : Str) (scope : Scope) (f : Addr) (cd : Value) (cc : Addr) (A : Around) (outer : List PySem.Env) (s : Shared) (H : Hp) (E : XK) : Cx where
  prog := P
  w := w
  K := K
  mg := mg
  base := base
  A := A.deeper (supEnv qual scope s.heap.objs.size f cd cc)
  N := N
  s_0 := s
  H_0 := H
  env := supEnv qual scope s.heap.objs.size f cd cc
  outer := outer
  stack := supEnv qual scope s.heap.objs.size f cd cc :: outer
  ex := []
  calm := true
  fn := fun _ => false
  pn := []
  xe := fun e s' => wpAny (model P w) (A.deeper (supEnv qual scope s.heap.objs.size f cd cc)) (leaving (supEnv qual scope s.heap.objs.size f cd cc) e) (fun _ s'' => CX outer H s E e s'') (fun e' s'' => CX outer H s E e' s'') s'
/-- names: the parameters, local; __class__ captured -/
structure SupScope (N P : List Str) (sc : Scope) : Prop where
  kind : sc.kind = .function
  co : sc.isCoroutine = false
  gen : sc.isGenerator = false
  nd : N.Nodup
  pre : N.take P.length = P
  par : ∀ x ∈ P, sc.names.lookup x = some .local
  cls : sc.names.lookup ("__class__" : Str) = some .free
  free : ∀ y ∈ sc.names, y.2 = .free → y.1 = ("__class__" : Str)
  nocell : ∀ y ∈ sc.names, y.2 ≠ .cell
theorem zip_fst : ∀ (P : List Str) (us : List Value), ((P.zip us).map (·.1)).Sublist P
  | [], us => by simp
  | p :: P, [] => by simp
  | p :: P, u :: us => by
    rw [List.zip_cons_cons, List.map_cons]
    exact (zip_fst P us).cons₂ p
theorem zip_rev_get : ∀ {P : List Str} {us : List Value} {i : Nat} {x : Str} {v : Value}, P.Nodup → P[i]? = some x → us[i]? = some v → (P.zip us).reverse.lookup x = some v := by
  intro P us i x v nd h1 h2
  have hm : (x, v) ∈ (P.zip us).reverse := by
    rw [List.mem_reverse]
    exact List.mem_of_getElem? (i := i) (by rw [List.getElem?_zip_eq_some]; exact ⟨h1, h2⟩)
  have nd2 : ((P.zip us).reverse.map (·.1)).Nodup := by
    rw [List.map_reverse]
    refine List.pairwise_reverse.mpr (List.Pairwise.imp (R := fun a b => a ≠ b) (fun h => Ne.symm h) ?_)
    exact nd.sublist (zip_fst P us)
  revert hm nd2
  generalize (P.zip us).reverse = l
  intro hm nd2
  induction l with
  | nil => cases hm
  | cons p l ih =>
    obtain ⟨y, u⟩ := p
    rw [List.lookup_cons]
    rcases List.mem_cons.mp hm with e | hm2
    · cases e; simp
    · have hne : (x == y) = false := by
        rw [beq_eq_false_iff_ne]
        rintro rfl
        exact (List.nodup_cons.mp nd2).1 (List.mem_map.mpr ⟨_, hm2, rfl⟩)
      rw [hne]
      exact ih hm2 (List.nodup_cons.mp nd2).2
theorem inv_sup {CX : CXT} {P : Program} {w : World} {K : PySem.W.Frag} {mg : Str → Option Value} {base : Heap} {N ps : List Str} {qual : Str} {scope : Scope} {f cc : Addr} {cd ccl : Value} {A : Around} {outer : List PySem.Env} {s : Shared} {H : Hp} {E : XK} {us : List Value} {vs : List V} {h₁ : Heap} {tk : Nat} {cld : Option Addr} {csl : Array (Option Value)} {C : Addr}
    (S : SupScope N ps scope) (hd : A.handled = none) (e0 : Env0 P w K mg base A outer s H) (hl : vs.length = ps.length) (r : Vals vs us) (hcell : K.lookup cc = some ⟨ccl, cld, .cell (some (.ref C)), csl⟩)
    (hns : h₁.Ns s.heap.objs.size (fun x => (ps.zip us).reverse.lookup x)) (hk : ∀ b o, s.heap.get? b = some o → h₁.get? b = some o) :
    L2.Inv (cxSup CX P w K mg base N qual scope f cd cc A outer s H E) [] (L2.start N vs) H { s with heap := h₁, toks := tk } := by
  have hpl : ps.length ≤ N.length := by have := congrArg List.length S.pre; rw [List.length_take] at this; omega
  have hb := e0.mod.kin _ _ hcell
  have hcl : ∀ {x c}, ([(("__class__" : Str), cc)] : List (Str × Addr)).lookup x = some c → x = ("__class__" : Str) ∧ c = cc := fun {x c} h => by
    rw [List.lookup_cons] at h
    split at h
    · rename_i q; cases h; exact ⟨eq_of_beq q, rfl⟩
    · cases h
  refine ⟨⟨e0.mod, S.kind, rfl, rfl, Nat.le_refl _, fun x y c h1 h2 => by rw [(hcl h1).1, (hcl h2).1], fun x hx => ?_, fun x c h _ => (by cases h), fun _ => hd, Around.frames_deeper e0.frames, .inr ⟨rfl, rfl⟩, fun b z => absurd z (by simp [cxSup]), e0.bs, e0.bsz, fun b _ _ => by simp [cxSup], fun b z => absurd z (by simp [cxSup]), e0.funs, e0.frf⟩,
    rfl, e0.bare, Un.kept hk, ⟨_, hns, fun i y v h1 h2 h3 => ?_⟩, fun x c h => ⟨some (.ref C), ?_⟩, e0.hok.fresh (Nat.le_refl _), fun x c h => ?_, fun p hp => absurd (show p ∈ ([] : List (Addr × Obj)) from hp) (by simp), e0.hok.kept hk, ?_⟩
  · have hx : scope.names.lookup x = some .cell ∨ scope.names.lookup x = some .free := hx
    rcases hx with hx | hx
    · exact absurd rfl (S.nocell _ (PySem.mem_of_lookup hx))
    · have := S.free _ (PySem.mem_of_lookup hx) rfl
      exact ⟨cc, by show ([(("__class__" : Str), cc)] : List (Str × Addr)).lookup x = some cc; rw [show x = ("__class__" : Str) from this]; simp⟩
  · have hi : i < vs.length := by
      unfold L2.start at h2
      by_cases hi : i < vs.length
      · exact hi
      · rw [List.getElem?_append_right (by simpa using hi)] at h2
        rw [List.getElem?_replicate] at h2
        split at h2 <;> cases h2
    have ha : vs[i]? = some v := by
      unfold L2.start at h2
      rw [List.getElem?_append_left (by simpa using hi), List.getElem?_map] at h2
      cases e : vs[i]? with
      | none => rw [e] at h2; cases h2
      | some a => rw [e] at h2; cases h2; rfl
    obtain ⟨u, hu, rv⟩ := r.get ha
    have hp : ps[i]? = some y := by
      rw [← S.pre, List.getElem?_take_of_lt (by omega)]; exact h1
    have ndP : ps.Nodup := by rw [← S.pre]; exact S.nd.sublist (List.take_sublist _ _)
    exact ⟨u, rv, .inl ⟨S.par y (List.mem_of_getElem? hp), zip_rev_get ndP hp hu⟩⟩
  · obtain ⟨_, rfl⟩ := hcl h
    exact ⟨_, hk _ _ (e0.bs _ _ hb).1, rfl⟩
  · obtain ⟨_, rfl⟩ := hcl h
    exact (e0.bs _ _ hb).2
  · unfold L2.start
    show _ = N.length
    rw [List.length_append, List.length_map, List.length_replicate]
    omega
end MP
end

section
set_option autoImplicit false
set_option linter.all false
set_option maxRecDepth 100000
/-! super().__init__(..) of an own exception class over ValueError, as a statement; a def that begins with it. -/
namespace MP
open PySem PySem.Spec PyProof.Rows L2

/-- what the written part says of such a def -/
structure SupK (P : Program) (K : PySem.W.Frag) (mg : Str → Option Value) (scope : Scope) (f cc cda C : Addr) (fd : FuncData) (sf : Str) : Prop where
  fn : ∃ oc od osl, K.lookup f = some ⟨oc, od, .func fd, osl⟩
  par : ∃ ar : PySem.Arg, (fd.params.posonlyargs ++ fd.params.args).head? = some ar ∧ ar.arg = sf
  code : ∃ ccl cdd vs ccs file tf, K.lookup cda = some ⟨ccl, cdd, .fields vs, ccs⟩ ∧ vs[2]? = some (.str file tf) ∧ ((P.main.file : Str) == file) = true
  cell : ∃ ccl cld csl, K.lookup cc = some ⟨ccl, cld, .cell (some (.ref C)), csl⟩
  cls : ∃ cdD, PySem.W.clsIn K C = some cdD
  sub : PySem.W.mroIn K C (.ref C) = some true
  sup : scope.names.lookup ("super" : Str) = some .globalImplicit
  nosup : mg "super" = none
  top : (P.main.scope.names.lookup ("super" : Str)).isSome = false
  third : PySem.W.nsIn K PySem.cStatics "thirdparty.any" = some none
  init : PySem.W.ks_superIn K C C "__init__" = some (some (.builtin "ValueError.__init__"))
  ve : PySem.W.subIn K (.ref C) (.type "ValueError") = some true
theorem sup_tree {o : PySem.Expr} {m : Str} {apos pos : Pos} {args : List PySem.Expr} {env : PySem.Env} (h : methodCallForm args.length (backTo pos (starEach args env)) [] = true) (hl : (apos.endLine == pos.line) = true) :
    eval (.Call (.Attribute o m apos) args [] pos) env = (do
      let ov ← attributeBase o m env (eval o env)
      standAt apos.atName
      let (f, first) ← holding [ov] (getMethod ov m (do return (← importBound o env).getD true))
      callWith pos f first (backTo pos (starEach args env)) []) := by
  have e : ∀ ov, methodCall o m apos pos env ov (args.length + ([] : List Keyword).length) (backTo pos (starEach args env)) (backToKw pos (keywordEach [] env)) = (do
      let (f, first) ← holding [ov] (getMethod ov m (do return (← importBound o env).getD true))
      callWith pos f first (backTo pos (starEach args env)) []) := fun ov => by
    show methodCall o m apos pos env ov args.length (backTo pos (starEach args env)) [] = _
    unfold methodCall methodCallPos calleeOf
    simp only [h, hl, Bool.not_true, Bool.false_or, if_true, pure_bind]
  rw [arm_eval_Call]
  simp only [e]
theorem boot_super : bootBuiltins "super" = some (.type "super") := by decide +kernel
section
variable {X : Cx} {pins : List (Addr × Obj)} {σ : L2.St} {H : Hp} {s : Shared} {A : Around} {E : Value → Shared → Prop}
theorem supcall_ok {a u C : Addr} {us : List Value} {Q : Value → Shared → Prop} (T : OexC X.K C) (I : L2.Inv X pins σ H s) (e : H a = some (exo a C none)) (hu : s.heap.get? u = some (PySem.W.kxs_mw "ValueError.__init__" a)) (hl : us.length ≤ sizeLine) (h : ∀ s', L2.Inv X pins σ H s' → Q .none s') :
    wpAny (model X.prog X.w) A (call (.ref u) us) Q E s := by
  obtain ⟨nm, q, N, bs, bm, sn, sub, ab, col, dd, k0, k1, k2, k3, k5, hC, hbm⟩ := T.cls
  obtain ⟨t1, ho⟩ := exo_at I.hok e
  obtain ⟨hp, g, d, t, os⟩ := s
  refine call_wrap F.excBase_ValueError (I.kIn _ _ hC) ho hu hl fun h' t2 k hx => ?_
  have J := I.write (t' := t) (x := a) (e := a) (o := exo a C none) (by rw [e]; exact True.intro) (.inl rfl) k ⟨_, hx⟩ (exo_ok hx)
  have eu : upd H a (exo a C none) = H := by
    funext b
    by_cases hb : b = a
    · rw [hb, upd_same, e]
    · rw [upd_ne hb]
  rw [eu] at J
  exact h _ J
end
section
variable {CX : CXT} {P : Program} {w : World} {K : PySem.W.Frag} {mg : Str → Option Value} {base : Heap} {N : List Str} {qual : Str} {scope : Scope} {f cc cda C : Addr} {A : Around} {outer : List PySem.Env} {s0 s : Shared} {H0 H : Hp} {Ex0 : XK} {σ : L2.St} {fd : FuncData} {sf : Str}
theorem sup_first {body : List PySem.Stmt} {e : PySem.Expr} {es : List PySem.Expr} {p0 p1 p2 pos pos' : Pos} {ta : TA} {a : Addr} {Qn : Hp → Prop}
    (S : SupK P K mg scope f cc cda C fd sf) (T : OexC K C) (hk : scope.kind = .function) (hcf : scope.names.lookup ("__class__" : Str) = some .free) (hsl : scope.names.lookup sf = some .local) (hN : N[0]? = some sf)
    (I : L2.Inv (cxSup CX P w K mg base N qual scope f (.ref cda) cc A outer s0 H0 Ex0) [] σ H s) (ha : σ[0]? = some (some (.ref a))) (hex : H a = some (exo a C none))
    (pa : PA (cxSup CX P w K mg base N qual scope f (.ref cda) cc A outer s0 H0 Ex0) (e :: es) ta) (he : plainX e = true) (hes : (backTo pos (starEach es (supEnv qual scope s0.heap.objs.size f (.ref cda) cc))).any (·.1) = false)
    (hfm : methodCallForm (e :: es).length (backTo pos (starEach (e :: es) (supEnv qual scope s0.heap.objs.size f (.ref cda) cc))) [] = true) (hln : (p2.endLine == pos.line) = true)
    (rd : ta σ H fun us H1 => us.length ≤ 1000 ∧ H1 a = some (exo a C none) ∧ Qn H1) :
    PySem.wpAt (model P w) (A.deeper (supEnv qual scope s0.heap.objs.size f (.ref cda) cc)) (.func body (supEnv qual scope s0.heap.objs.size f (.ref cda) cc)) (PySem.exec (PySem.Stmt.Expr (PySem.Expr.Call (.Attribute (.Call (.Name "super" p0) [] [] p1) "__init__" p2) (e :: es) [] pos) pos') (supEnv qual scope s0.heap.objs.size f (.ref cda) cc))
      (fun fl s' => fl = PySem.Flow.next ∧ ∃ H', L2.Inv (cxSup CX P w K mg base N qual scope f (.ref cda) cc A outer s0 H0 Ex0) [] σ H' s' ∧ Qn H')
      (cxSup CX P w K mg base N qual scope f (.ref cda) cc A outer s0 H0 Ex0).xe s := by
  obtain ⟨oc, od, osl, hf⟩ := S.fn
  obtain ⟨ar, hp, har⟩ := S.par
  obtain ⟨ccl, cdd, vs, ccs, file, tf, hcode, hvs, hfile⟩ := S.code
  obtain ⟨ccl', cld, csl, hcell⟩ := S.cell
  obtain ⟨cdD, hD⟩ := S.cls
  subst har
  have XI : K.In s.heap := I.kIn
  obtain ⟨oD, hD1, hD2⟩ : ∃ oD, s.heap.get? C = some oD ∧ oD.data = .cls cdD := by
    unfold PySem.W.clsIn at hD
    split at hD
    · rename_i c d cd' sl ho
      cases hD
      exact ⟨_, XI _ _ ho, rfl⟩
    · cases hD
  obtain ⟨t1, hox⟩ := exo_at I.hok hex
  have hsup : (supEnv qual scope s0.heap.objs.size f (.ref cda) cc).kindOf "super" = some .globalImplicit := S.sup
  obtain ⟨mb, hb1, hb2⟩ := I.mod.blt
  obtain ⟨m, hns, hlk⟩ := I.loc
  have hself : m ar.arg = some (.ref a) := by
    obtain ⟨u, r, l⟩ := hlk 0 ar.arg (.ref a) hN ha (.inl hsl)
    have r' : u = .ref a := r
    subst r'
    rcases l with ⟨_, q⟩ | ⟨q, _⟩
    · exact q
    · rcases q with q | q
      · exact absurd (hsl.symm.trans q) (by decide)
      · exact absurd (hsl.symm.trans q) (by decide)
  have hst : starEach (e :: es) (supEnv qual scope s0.heap.objs.size f (.ref cda) cc) = (false, eval e (supEnv qual scope s0.heap.objs.size f (.ref cda) cc)) :: starEach es (supEnv qual scope s0.heap.objs.size f (.ref cda) cc) := plainX_star he _ _
  have hcc : s.heap.IsCell cc (some (.ref C)) := ⟨_, XI _ _ hcell, rfl⟩
  have hC0 : PySem.W.alongIn K "__init__" ((cdD.mro.dropWhile (· != .ref C)).drop 1) = some (some (.builtin "ValueError.__init__")) := by
    have := S.init
    unfold PySem.W.ks_superIn at this
    rw [hD] at this
    exact this
  refine PySem.ks_wpAt_Expr_any ?_ (by simp [interactive, hk]) rfl
  refine PySem.ks_wpAt_MethodCall ?_ (sup_tree hfm hln)
  refine PySem.ks_wpAt_super_base (f := f) (cc := cda) hsup hcf (by decide) rfl (XI _ _ hf) rfl hp rfl (XI _ _ hcode) rfl hvs hfile S.top ?_
  refine PySem.W.ks_loadName_global hk hsup ?_
  refine Calls.loadGlobal_builtin (show s.heap.Ns mainGlobals mg from I.mod.glob.keeps I.bk) S.nosup (show s.heap.Ns builtinsNs mb from hb1.keeps I.bk) ((hb2 _ (by decide)).trans boot_super) ⟨rfl, ?_⟩
  refine wpAny_loadName_free hk hcf (c := cc) (by rfl) hcc ?_
  refine wpAny_loadName_local hk hsl hns hself ?_
  obtain ⟨hp0, g, d, t, os⟩ := s
  refine PySem.ks_wpAny_isType_cls hD1 hD2 ⟨rfl, ?_⟩
  refine PySem.ks_wpAny_call_super hD1 hD2 hox rfl (fun c z => by cases z) (PySem.W.looks_mroIn XI S.sub) fun h' e1 k => ?_
  have I1 := I.kept (t' := t) k
  have IA : PySem.W.InstAt h' a _ C none := ⟨k _ _ hox, rfl, rfl, trivial⟩
  have XJ : K.In h' := I1.kIn
  refine PySem.W.kxs_getMethod PySem.W.kxs_ValueError e1 (PySem.W.looks_opaque XJ S.third) (l₀ := cdD.mro) ?_ rfl XJ hC0 (IA.type.andThen (PySem.W.looks_subIn XJ S.ve)) (PySem.W.ks_ne XJ IA hD) (by decide) ?_
  · exact fun A Q E s k q => wpAny_bind ((PySem.W.looks_clsIn XJ hD) A _ E s k (wpAny_pure q))
  have I2 := I1.kept (h' := h'.push (PySem.W.kxs_mw "ValueError.__init__" a)) (t' := t + 1) (fun b o eb => Heap.get?_push_of_some _ eb)
  have hu : (h'.push (PySem.W.kxs_mw "ValueError.__init__" a)).get? h'.objs.size = some (PySem.W.kxs_mw "ValueError.__init__" a) := Heap.get?_push_at rfl rfl
  have I3 : L2.Inv (cxSup CX P w K mg base N qual scope f (.ref cda) cc A outer s0 H0 Ex0) [(h'.objs.size, PySem.W.kxs_mw "ValueError.__init__" a)] σ H _ := I2.pins_of fun p hp => by
    rw [List.mem_singleton] at hp
    subst hp
    exact ⟨hu, I1.fresh, Nat.ne_of_gt I1.lt, I1.nofs (Nat.le_refl _), fun v z => by cases z⟩
  refine PySem.W.kxs_callWith (i := "ValueError.__init__") (x := a) ?_ ?_
  · rw [hst]
    exact hes
  · have hr := pa.run pos _ _ σ H _ I3 rd
    rw [show starEach (e :: es) (cxSup CX P w K mg base N qual scope f (.ref cda) cc A outer s0 H0 Ex0).env = _ from hst] at hr
    rw [hst]
    refine Calls.evalArgs_plain (thn hr fun us s1 hz => ?_)
    obtain ⟨xs, H1, J1, r, hl, hx, hq⟩ := hz
    have hu1 := (J1.pin (h'.objs.size, PySem.W.kxs_mw "ValueError.__init__" a) (List.mem_append_right _ (by simp))).1
    refine ⟨hu1, ?_⟩
    refine supcall_ok T J1 hx hu1 (by show us.length ≤ sizeLine; rw [← r.length]; exact Nat.le_trans hl (show 1000 ≤ sizeLine by decide)) fun s' J2 => ?_
    exact ⟨rfl, H1, J2.pins_of (by simp), hq⟩
end
end MP
end

section
set_option autoImplicit false
set_option linter.all false
set_option maxRecDepth 100000
/-! A def (an own exception's __init__) that begins with super().__init__(..): its promise. -/
namespace MP
open PySem PySem.Spec PyProof.Rows L2
theorem start_at {N : List Str} {vs : List V} {i : Nat} {v : V} (h : vs[i]? = some v) : (L2.start N vs)[i]? = some (some v) := by
  obtain ⟨hi, e⟩ := List.getElem?_eq_some_iff.mp h
  unfold L2.start
  rw [List.getElem?_append_left (by simpa using hi), List.getElem?_map, h]
  rfl
theorem fn_sup {CX : CXT} {P : Program} {w : World} {K : PySem.W.Frag} {mg : Str → Option Value} {base : Heap} {k : Nat} {f cc cda C : Addr} {name qual : Str} {params : Arguments} {rest : List PySem.Stmt} {scope : Scope} {dV kV doc pm ct oc : Value} {an od : Option Addr}
    {osl : Array (Option Value)} {N ps : List Str} {sp : Sp} {sf : Str} {e : PySem.Expr} {es : List PySem.Expr} {p0 p1 p2 pos pos' : Pos}
    (lk : K.lookup f = some ⟨oc, od, .func (PySem.W.ksFn name qual params (PySem.Stmt.Expr (PySem.Expr.Call (.Attribute (.Call (.Name "super" p0) [] [] p1) "__init__" p2) (e :: es) [] pos) pos' :: rest) scope dV kV doc pm an (.ref cda) ct cc), osl⟩)
    (hcd : PySem.W.codeIn K (.ref cda) qual = true) (S : SupScope N ps scope)
    (SK : SupK P K mg scope f cc cda C (PySem.W.ksFn name qual params (PySem.Stmt.Expr (PySem.Expr.Call (.Attribute (.Call (.Name "super" p0) [] [] p1) "__init__" p2) (e :: es) [] pos) pos' :: rest) scope dV kV doc pm an (.ref cda) ct cc) sf)
    (T : OexC K C) (hN : N[0]? = some sf) (hsl : scope.names.lookup sf = some .local) (he : plainX e = true) (hes : ∀ env, (backTo pos (starEach es env)).any (·.1) = false)
    (hfm : ∀ env, methodCallForm (e :: es).length (backTo pos (starEach (e :: es) env)) [] = true) (hln : (p2.endLine == pos.line) = true)
    (len : ∀ vs H Q E, sp vs H Q E → vs.length = ps.length)
    (hbody : ∀ (A : Around) (outer : List PySem.Env) (s : Shared) (H : Hp) (vs : List V) (Q : VK) (E : XK), Room k (A.deeper (supEnv qual scope s.heap.objs.size f (.ref cda) cc)) → sp vs H Q E →
      ∃ (ta : TA) (t : TS) (a : Addr), PA (cxSup CX P w K mg base N qual scope f (.ref cda) cc A outer s H E) (e :: es) ta ∧ PSs (cxSup CX P w K mg base N qual scope f (.ref cda) cc A outer s H E) rest t ∧ vs[0]? = some (.ref a) ∧ H a = some (exo a C none) ∧
        ta (L2.start N vs) H fun us H1 => us.length ≤ 1000 ∧ H1 a = some (exo a C none) ∧ t { nx := fun _ H' => Q .non H', rt := Q } (L2.start N vs) H1) :
    FnOk P w K mg base CX (k + 1) f (PySem.W.ksFn name qual params (PySem.Stmt.Expr (PySem.Expr.Call (.Attribute (.Call (.Name "super" p0) [] [] p1) "__init__" p2) (e :: es) [] pos) pos' :: rest) scope dV kV doc pm an (.ref cda) ct cc) ps sp := by
  refine ⟨len, fun A outer s H args us vs Q E hr e0 hb r hsp => ?_⟩
  have hl := len _ _ _ _ hsp
  have KX : K.In s.heap := e0.mod.kin.keeps fun b o e => (e0.bs b o e).1
  have lim : s.heap.NoLimit := e0.mod.nolimit.keeps fun b o e => (e0.bs b o e).1
  obtain ⟨ccl', cld, csl, hcell⟩ := SK.cell
  refine PySem.ks_codeAny_call_defAt (binds := ps.zip us) hr.depth (KX _ _ lk) rfl lim (PySem.W.codeRec_of KX hcd) rfl hb (fun x hx => S.nocell x hx) (fun x hx => S.par _ (List.of_mem_zip hx).1) (fun h₁ hns hk₁ => ?_) S.co S.gen S.kind
  obtain ⟨ta, t, a, pa, pt, h0, h1, h2⟩ := hbody A outer s H vs Q E (hr.deeper _) hsp
  have I := inv_sup (CX := CX) (w := w) (P := P) (E := E) (qual := qual) (cd := .ref cda) (f := f) (tk := s.toks + (ps.zip us).length) S hr.hd e0 hl r hcell hns hk₁
  refine PySem.ks_wpAt_execs_cons (PySem.ks_wpAt_mono (sup_first SK T S.kind S.cls hsl hN I (start_at h0) h1 pa he (hes _) (hfm _) hln h2) (fun fl s' hz => ?_) fun _ _ x => x)
  obtain ⟨rfl, H1, J, q⟩ := hz
  refine PySem.wpAt_of_wpAny (wpAny_mono (pt.run [] s' _ H1 _ J q) (fun fl s'' hs => ?_) fun _ _ x => x)
  have fin : ∀ {σ' : L2.St} {H' : Hp} {v : V} {u : Value}, L2.Inv (cxSup CX P w K mg base N qual scope f (.ref cda) cc A outer s H E) [] σ' H' s'' → RelV v u → Q v H' → CE outer P w H s Q u s'' :=
    fun {σ' H' v u} J rv q => ⟨v, H', J.os, J.bare, J.base, J.hok, rv, q⟩
  cases fl with
  | ret u =>
    obtain ⟨v, σ', H', J, rv, q⟩ := hs
    exact fin J rv q
  | next =>
    obtain ⟨σ', H', J, q⟩ := hs
    exact fin (v := V.non) (u := Value.none) J rfl q
  | brk =>
    obtain ⟨_, _, _, q⟩ := hs
    exact False.elim q
  | cont =>
    obtain ⟨_, _, _, q⟩ := hs
    exact False.elim q
end MP
end

section
set_option autoImplicit false
set_option linter.all false
set_option maxRecDepth 100000
/-! __init__ of own exceptions, by their kinds. -/
namespace MP
open PySem PySem.Spec PyProof.Rows L2
def tFmt3 (te : TE) : TE := fun σ H Q => te σ H fun x H1 => ∃ z, Fmt x z ∧ z.length ≤ sizeLine ∧ Q (.str z) H1
theorem pe_fmt3 {X : Cx} {e : PySem.Expr} {te : TE} {pos : Pos} (he : PE X e te) : PE X (.FormattedValue e (-1) none pos) (tFmt3 te) := by
  refine ⟨fun pins s σ H Q I h => ?_⟩
  refine wpAny_FormattedValue_plain (thn (he.run pins s σ H _ I h) fun v s1 hv => ?_)
  obtain ⟨x, H1, I1, r1, z, f, hz, q⟩ := hv
  rcases f with rfl | ⟨rfl, rfl⟩ | ⟨i, rfl, hi, rfl⟩
  · obtain ⟨t, rfl⟩ := r1
    exact wpAny_formatField_str ⟨.str z, H1, I1, ⟨t, rfl⟩, q⟩ ⟨.str z, H1, I1.tok _, ⟨_, rfl⟩, q⟩ hz
  · obtain rfl : v = Value.none := r1
    exact wpAny_formatField_none ⟨.str "None", H1, I1.tok _, ⟨_, rfl⟩, q⟩
  · obtain ⟨t, rfl⟩ := r1
    exact wpAny_formatField_int hi ⟨.str (toString i), H1, I1.tok _, ⟨_, rfl⟩, q⟩
theorem heap_two {H : Hp} {a d : Addr} {o1 o2 o3 : HO} (h : d ≠ a) : upd (upd (upd H d o1) a o2) d o3 = upd (upd H d o3) a o2 := by
  funext b
  by_cases hb : b = d
  · subst hb
    rw [upd_same, upd_ne h, upd_same]
  · rw [upd_ne hb]
    by_cases hba : b = a
    · subst hba
      rw [upd_same, upd_same]
    · rw [upd_ne hba, upd_ne hb, upd_ne hba, upd_ne hb]
theorem str_len (a b : Str) : (a ++ b).length = a.length + b.length := by
  show (a.cps ++ b.cps).size = _
  exact Array.size_append ..
theorem fn_one {CX : CXT} {P : Program} {w : World} {K : PySem.W.Frag} {mg : Str → Option Value} {base : Heap} {k : Nat} {f cc cda C : Addr} {name qual : Str} {params : Arguments} {scope : Scope} {dV kV doc pm ct oc : Value} {an od : Option Addr}
    {osl : Array (Option Value)} {sf x lit : Str} {fl : String} {p0 p1 p2 p3 p4 p5 p6 p7 p8 p9 p10 pos pos' : Pos} {lk' : Nat}
    (lk : K.lookup f = some ⟨oc, od, .func (PySem.W.ksFn name qual params [PySem.Stmt.Expr (PySem.Expr.Call (.Attribute (.Call (.Name "super" p0) [] [] p1) "__init__" p2) [.JoinedStr [.Constant (.str lit) lk' p3, .FormattedValue (.Name x p4) (-1) none p5] p6] [] pos) pos',
      .Assign [.Attribute (.Name sf p7) (Str.ofString fl) p8] (.Name x p9) p10] scope dV kV doc pm an (.ref cda) ct cc), osl⟩)
    (hcd : PySem.W.codeIn K (.ref cda) qual = true) (S : SupScope [sf, x] [sf, x] scope)
    (SK : ∀ fd, (∃ oc od osl, K.lookup f = some ⟨oc, od, .func fd, osl⟩) → SupK P K mg scope f cc cda C fd sf)
    (T : OexC K C) (hln : (p2.endLine == pos.line) = true) (hlit : lit.length ≤ 900) (hfl : PySem.W.findIn K (.ref C) (Str.ofString fl) = some none)
    (d1 : (sf == ("__debug__" : Str)) = false) (d2 : (x == ("__debug__" : Str)) = false) (d3 : (sf == ("__classdict__" : Str)) = false) (d4 : (x == ("__classdict__" : Str)) = false) :
    FnOk P w K mg base CX (k + 1) f (PySem.W.ksFn name qual params [PySem.Stmt.Expr (PySem.Expr.Call (.Attribute (.Call (.Name "super" p0) [] [] p1) "__init__" p2) [.JoinedStr [.Constant (.str lit) lk' p3, .FormattedValue (.Name x p4) (-1) none p5] p6] [] pos) pos',
      .Assign [.Attribute (.Name sf p7) (Str.ofString fl) p8] (.Name x p9) p10] scope dV kV doc pm an (.ref cda) ct cc) [sf, x] (spN .one C [fl]) := by
  have v1 : scope.names.lookup sf = some .local := S.par sf (by simp)
  have v2 : scope.names.lookup x = some .local := S.par x (by simp)
  refine fn_sup lk hcd S (SK _ ⟨_, _, _, lk⟩) T (by rfl) v1 rfl (fun env => by rfl) (fun env => by rfl) hln (fun vs H Q E h => ?_) fun A outer s H vs Q E hr h => ?_
  · obtain ⟨a, us, rfl, _, ⟨y, rfl, _⟩, _⟩ := h
    rfl
  · obtain ⟨a, us, rfl, _, ⟨y, rfl, hy⟩, ha, hq⟩ := h
    have px : ∀ {p : Pos}, PE (cxSup CX P w K mg base [sf, x] qual scope f (.ref cda) cc A outer s H E) (.Name x p) (tVar 1) := pe_var (by rfl) (.inl v2) d2 d4
    have ps : ∀ {p : Pos}, PE (cxSup CX P w K mg base [sf, x] qual scope f (.ref cda) cc A outer s H E) (.Name sf p) (tVar 0) := pe_var (by rfl) (.inl v1) d1 d3
    refine ⟨_, _, a, pa_cons (pe_joined (.cons pe_str (.cons (pe_fmt px) .nil))) pa_nil (plainX_star rfl _ _), pss_one (ps_ost ps px (by rfl)), rfl, ha, ?_⟩
    have hl1 : (Str.empty ++ lit).length ≤ sizeLine := by rw [str_len]; exact Nat.le_trans (Nat.add_le_add (Nat.zero_le 0) hlit) (show 0 + 900 ≤ sizeLine by decide)
    have hl2 : (Str.empty ++ lit ++ y).length ≤ sizeLine := by rw [str_len, str_len]; exact Nat.le_trans (Nat.add_le_add (Nat.add_le_add (Nat.le_refl 0) hlit) hy) (show 0 + 900 + 900 ≤ sizeLine by decide)
    refine ⟨lit, rfl, hl1, .str y, rfl, .inl ⟨y, rfl, Nat.le_trans hy (show 900 ≤ sizeLine by decide), y, rfl, hl2, ?_⟩⟩
    refine ⟨Nat.succ_le_succ (Nat.zero_le _), ha, .str y, rfl, .ref a, rfl, a, C, rfl, T, hfl, .inl ⟨ha, fun dx n ne => hq dx n ne⟩⟩
theorem fn_two {CX : CXT} {P : Program} {w : World} {K : PySem.W.Frag} {mg : Str → Option Value} {base : Heap} {k : Nat} {f cc cda C : Addr} {name qual : Str} {params : Arguments} {scope : Scope} {dV kV doc pm ct oc : Value} {an od : Option Addr}
    {osl : Array (Option Value)} {sf x1 x2 l1 l2 : Str} {f1 f2 : String} {p0 p1 p2 p3 p4 p5 p6 p7 p8 p9 p10 p11 p12 p13 p14 p15 p16 p17 pos pos' : Pos} {n1 n2 : Nat}
    (lk : K.lookup f = some ⟨oc, od, .func (PySem.W.ksFn name qual params [PySem.Stmt.Expr (PySem.Expr.Call (.Attribute (.Call (.Name "super" p0) [] [] p1) "__init__" p2) [.JoinedStr [.Constant (.str l1) n1 p3, .FormattedValue (.Name x1 p4) (-1) none p5, .Constant (.str l2) n2 p11, .FormattedValue (.Name x2 p12) (-1) none p13] p6] [] pos) pos',
      .Assign [.Attribute (.Name sf p7) (Str.ofString f1) p8] (.Name x1 p9) p10, .Assign [.Attribute (.Name sf p14) (Str.ofString f2) p15] (.Name x2 p16) p17] scope dV kV doc pm an (.ref cda) ct cc), osl⟩)
    (hcd : PySem.W.codeIn K (.ref cda) qual = true) (S : SupScope [sf, x1, x2] [sf, x1, x2] scope)
    (SK : ∀ fd, (∃ oc od osl, K.lookup f = some ⟨oc, od, .func fd, osl⟩) → SupK P K mg scope f cc cda C fd sf)
    (T : OexC K C) (hln : (p2.endLine == pos.line) = true) (hl1 : l1.length ≤ 900) (hl2 : l2.length ≤ 900) (hf1 : PySem.W.findIn K (.ref C) (Str.ofString f1) = some none) (hf2 : PySem.W.findIn K (.ref C) (Str.ofString f2) = some none)
    (d1 : (sf == ("__debug__" : Str)) = false) (d2 : (x1 == ("__debug__" : Str)) = false) (d5 : (x2 == ("__debug__" : Str)) = false) (d3 : (sf == ("__classdict__" : Str)) = false) (d4 : (x1 == ("__classdict__" : Str)) = false) (d6 : (x2 == ("__classdict__" : Str)) = false) :
    FnOk P w K mg base CX (k + 1) f (PySem.W.ksFn name qual params [PySem.Stmt.Expr (PySem.Expr.Call (.Attribute (.Call (.Name "super" p0) [] [] p1) "__init__" p2) [.JoinedStr [.Constant (.str l1) n1 p3, .FormattedValue (.Name x1 p4) (-1) none p5, .Constant (.str l2) n2 p11, .FormattedValue (.Name x2 p12) (-1) none p13] p6] [] pos) pos',
      .Assign [.Attribute (.Name sf p7) (Str.ofString f1) p8] (.Name x1 p9) p10, .Assign [.Attribute (.Name sf p14) (Str.ofString f2) p15] (.Name x2 p16) p17] scope dV kV doc pm an (.ref cda) ct cc) [sf, x1, x2] (spN .two C [f1, f2]) := by
  have v0 : scope.names.lookup sf = some .local := S.par sf (by simp)
  have v1 : scope.names.lookup x1 = some .local := S.par x1 (by simp)
  have v2 : scope.names.lookup x2 = some .local := S.par x2 (by simp)
  refine fn_sup lk hcd S (SK _ ⟨_, _, _, lk⟩) T (by rfl) v0 rfl (fun env => by rfl) (fun env => by rfl) hln (fun vs H Q E h => ?_) fun A outer s H vs Q E hr h => ?_
  · obtain ⟨a, us, rfl, _, ⟨v, y, z, rfl, _⟩, _⟩ := h
    rfl
  · obtain ⟨a, us, rfl, _, ⟨v, y, z, rfl, hy, hf, hz⟩, ha, hq⟩ := h
    have ps : ∀ {p : Pos}, PE (cxSup CX P w K mg base [sf, x1, x2] qual scope f (.ref cda) cc A outer s H E) (.Name sf p) (tVar 0) := pe_var (by rfl) (.inl v0) d1 d3
    have px : ∀ {p : Pos}, PE (cxSup CX P w K mg base [sf, x1, x2] qual scope f (.ref cda) cc A outer s H E) (.Name x1 p) (tVar 1) := pe_var (by rfl) (.inl v1) d2 d4
    have py : ∀ {p : Pos}, PE (cxSup CX P w K mg base [sf, x1, x2] qual scope f (.ref cda) cc A outer s H E) (.Name x2 p) (tVar 2) := pe_var (by rfl) (.inl v2) d5 d6
    refine ⟨_, _, a, pa_cons (pe_joined (.cons pe_str (.cons (pe_fmt3 px) (.cons pe_str (.cons (pe_fmt py) .nil))))) pa_nil (plainX_star rfl _ _), pss_cons (ps_ost ps px (by rfl)) (pss_one (ps_ost ps py (by rfl))), rfl, ha, ?_⟩
    have k0 : (Str.empty).length = 0 := rfl
    have b0 : 900 + 900 + 900 + 900 ≤ sizeLine := by decide
    refine ⟨l1, rfl, by rw [str_len, k0]; omega, v, rfl, z, hf, by omega, z, rfl, by rw [str_len, str_len, k0]; omega, l2, rfl, by rw [str_len, str_len, str_len, k0]; omega, .str y, rfl, .inl ⟨y, rfl, by omega, y, rfl, by rw [str_len, str_len, str_len, str_len, k0]; omega, ?_⟩⟩
    refine ⟨Nat.succ_le_succ (Nat.zero_le _), ha, v, rfl, .ref a, rfl, a, C, rfl, T, hf1, .inl ⟨ha, fun dx n ne => ?_⟩⟩
    refine ⟨.str y, rfl, .ref a, rfl, a, C, rfl, T, hf2, .inr ⟨dx, [(Str.ofString f1, v)], upd_same .., by rw [upd_ne ne, upd_same], (show 1 ≤ 900 by decide), ?_⟩⟩
    rw [heap_two ne]
    exact hq dx n ne
theorem fn_many {CX : CXT} {P : Program} {w : World} {K : PySem.W.Frag} {mg : Str → Option Value} {base : Heap} {k : Nat} {f cc cda C : Addr} {name qual : Str} {params : Arguments} {scope : Scope} {dV kV doc pm ct oc : Value} {an od : Option Addr}
    {osl : Array (Option Value)} {sf x1 x2 l1 l2 : Str} {f1 f2 : String} {p0 p1 p2 p3 p4 p5 p6 p7 p8 p9 p10 p11 p12 p13 p14 p15 p16 p17 pos pos' : Pos} {n1 n2 : Nat}
    (lk : K.lookup f = some ⟨oc, od, .func (PySem.W.ksFn name qual params [PySem.Stmt.Expr (PySem.Expr.Call (.Attribute (.Call (.Name "super" p0) [] [] p1) "__init__" p2) [.JoinedStr [.Constant (.str l1) n1 p3, .FormattedValue (.Name x2 p4) (-1) none p5, .Constant (.str l2) n2 p11, .FormattedValue (.Name x1 p12) (-1) none p13] p6] [] pos) pos',
      .Assign [.Attribute (.Name sf p7) (Str.ofString f1) p8] (.Name x1 p9) p10, .Assign [.Attribute (.Name sf p14) (Str.ofString f2) p15] (.Name x2 p16) p17] scope dV kV doc pm an (.ref cda) ct cc), osl⟩)
    (hcd : PySem.W.codeIn K (.ref cda) qual = true) (S : SupScope [sf, x1, x2] [sf, x1, x2] scope)
    (SK : ∀ fd, (∃ oc od osl, K.lookup f = some ⟨oc, od, .func fd, osl⟩) → SupK P K mg scope f cc cda C fd sf)
    (T : OexC K C) (hln : (p2.endLine == pos.line) = true) (hl1 : l1.length ≤ 900) (hl2 : l2.length ≤ 900) (hf1 : PySem.W.findIn K (.ref C) (Str.ofString f1) = some none) (hf2 : PySem.W.findIn K (.ref C) (Str.ofString f2) = some none)
    (d1 : (sf == ("__debug__" : Str)) = false) (d2 : (x1 == ("__debug__" : Str)) = false) (d5 : (x2 == ("__debug__" : Str)) = false) (d3 : (sf == ("__classdict__" : Str)) = false) (d4 : (x1 == ("__classdict__" : Str)) = false) (d6 : (x2 == ("__classdict__" : Str)) = false) :
    FnOk P w K mg base CX (k + 1) f (PySem.W.ksFn name qual params [PySem.Stmt.Expr (PySem.Expr.Call (.Attribute (.Call (.Name "super" p0) [] [] p1) "__init__" p2) [.JoinedStr [.Constant (.str l1) n1 p3, .FormattedValue (.Name x2 p4) (-1) none p5, .Constant (.str l2) n2 p11, .FormattedValue (.Name x1 p12) (-1) none p13] p6] [] pos) pos',
      .Assign [.Attribute (.Name sf p7) (Str.ofString f1) p8] (.Name x1 p9) p10, .Assign [.Attribute (.Name sf p14) (Str.ofString f2) p15] (.Name x2 p16) p17] scope dV kV doc pm an (.ref cda) ct cc) [sf, x1, x2] (spN .many C [f1, f2]) := by
  have v0 : scope.names.lookup sf = some .local := S.par sf (by simp)
  have v1 : scope.names.lookup x1 = some .local := S.par x1 (by simp)
  have v2 : scope.names.lookup x2 = some .local := S.par x2 (by simp)
  refine fn_sup lk hcd S (SK _ ⟨_, _, _, lk⟩) T (by rfl) v0 rfl (fun env => by rfl) (fun env => by rfl) hln (fun vs H Q E h => ?_) fun A outer s H vs Q E hr h => ?_
  · obtain ⟨a, us, rfl, _, ⟨y, i, rfl, _⟩, _⟩ := h
    rfl
  · obtain ⟨a, us, rfl, _, ⟨y, i, rfl, hy, hi, hz⟩, ha, hq⟩ := h
    have ps : ∀ {p : Pos}, PE (cxSup CX P w K mg base [sf, x1, x2] qual scope f (.ref cda) cc A outer s H E) (.Name sf p) (tVar 0) := pe_var (by rfl) (.inl v0) d1 d3
    have px : ∀ {p : Pos}, PE (cxSup CX P w K mg base [sf, x1, x2] qual scope f (.ref cda) cc A outer s H E) (.Name x1 p) (tVar 1) := pe_var (by rfl) (.inl v1) d2 d4
    have py : ∀ {p : Pos}, PE (cxSup CX P w K mg base [sf, x1, x2] qual scope f (.ref cda) cc A outer s H E) (.Name x2 p) (tVar 2) := pe_var (by rfl) (.inl v2) d5 d6
    refine ⟨_, _, a, pa_cons (pe_joined (.cons pe_str (.cons (pe_fmt3 py) (.cons pe_str (.cons (pe_fmt px) .nil))))) pa_nil (plainX_star rfl _ _), pss_cons (ps_ost ps px (by rfl)) (pss_one (ps_ost ps py (by rfl))), rfl, ha, ?_⟩
    have k0 : (Str.empty).length = 0 := rfl
    have b0 : 900 + 900 + 900 + 900 ≤ sizeLine := by decide
    have hf : Fmt (.int i) (Str.ofString (toString i)) := .inr (.inr ⟨i, rfl, hi, rfl⟩)
    refine ⟨l1, rfl, by rw [str_len, k0]; omega, .int i, rfl, _, hf, by omega, _, rfl, by rw [str_len, str_len, k0]; omega, l2, rfl, by rw [str_len, str_len, str_len, k0]; omega, .str y, rfl, .inl ⟨y, rfl, by omega, y, rfl, by rw [str_len, str_len, str_len, str_len, k0]; omega, ?_⟩⟩
    refine ⟨Nat.succ_le_succ (Nat.zero_le _), ha, .str y, rfl, .ref a, rfl, a, C, rfl, T, hf1, .inl ⟨ha, fun dx n ne => ?_⟩⟩
    refine ⟨.int i, rfl, .ref a, rfl, a, C, rfl, T, hf2, .inr ⟨dx, [(Str.ofString f1, .str y)], upd_same .., by rw [upd_ne ne, upd_same], (show 1 ≤ 900 by decide), ?_⟩⟩
    rw [heap_two ne]
    exact hq dx n ne
theorem fn_quiet {CX : CXT} {P : Program} {w : World} {K : PySem.W.Frag} {mg : Str → Option Value} {base : Heap} {k : Nat} {f cc cda C : Addr} {name qual : Str} {params : Arguments} {scope : Scope} {dV kV doc pm ct oc : Value} {an od : Option Addr}
    {osl : Array (Option Value)} {sf x lit : Str} {fl : String} {p0 p1 p2 p3 p7 p8 p9 p10 pos pos' : Pos} {lk' : Nat}
    (lk : K.lookup f = some ⟨oc, od, .func (PySem.W.ksFn name qual params [PySem.Stmt.Expr (PySem.Expr.Call (.Attribute (.Call (.Name "super" p0) [] [] p1) "__init__" p2) [.Constant (.str lit) lk' p3] [] pos) pos',
      .Assign [.Attribute (.Name sf p7) (Str.ofString fl) p8] (.Name x p9) p10] scope dV kV doc pm an (.ref cda) ct cc), osl⟩)
    (hcd : PySem.W.codeIn K (.ref cda) qual = true) (S : SupScope [sf, x] [sf, x] scope)
    (SK : ∀ fd, (∃ oc od osl, K.lookup f = some ⟨oc, od, .func fd, osl⟩) → SupK P K mg scope f cc cda C fd sf)
    (T : OexC K C) (hln : (p2.endLine == pos.line) = true) (hfl : PySem.W.findIn K (.ref C) (Str.ofString fl) = some none)
    (d1 : (sf == ("__debug__" : Str)) = false) (d2 : (x == ("__debug__" : Str)) = false) (d3 : (sf == ("__classdict__" : Str)) = false) (d4 : (x == ("__classdict__" : Str)) = false) :
    FnOk P w K mg base CX (k + 1) f (PySem.W.ksFn name qual params [PySem.Stmt.Expr (PySem.Expr.Call (.Attribute (.Call (.Name "super" p0) [] [] p1) "__init__" p2) [.Constant (.str lit) lk' p3] [] pos) pos',
      .Assign [.Attribute (.Name sf p7) (Str.ofString fl) p8] (.Name x p9) p10] scope dV kV doc pm an (.ref cda) ct cc) [sf, x] (spN .quiet C [fl]) := by
  have v1 : scope.names.lookup sf = some .local := S.par sf (by simp)
  have v2 : scope.names.lookup x = some .local := S.par x (by simp)
  refine fn_sup lk hcd S (SK _ ⟨_, _, _, lk⟩) T (by rfl) v1 rfl (fun env => by rfl) (fun env => by rfl) hln (fun vs H Q E h => ?_) fun A outer s H vs Q E hr h => ?_
  · obtain ⟨a, us, rfl, _, ⟨y, rfl⟩, _⟩ := h
    rfl
  · obtain ⟨a, us, rfl, _, ⟨y, rfl⟩, ha, hq⟩ := h
    have px : ∀ {p : Pos}, PE (cxSup CX P w K mg base [sf, x] qual scope f (.ref cda) cc A outer s H E) (.Name x p) (tVar 1) := pe_var (by rfl) (.inl v2) d2 d4
    have ps : ∀ {p : Pos}, PE (cxSup CX P w K mg base [sf, x] qual scope f (.ref cda) cc A outer s H E) (.Name sf p) (tVar 0) := pe_var (by rfl) (.inl v1) d1 d3
    refine ⟨_, _, a, pa_cons pe_str pa_nil (plainX_star rfl _ _), pss_one (ps_ost ps px (by rfl)), rfl, ha, ?_⟩
    refine ⟨Nat.succ_le_succ (Nat.zero_le _), ha, y, rfl, .ref a, rfl, a, C, rfl, T, hfl, .inl ⟨ha, fun dx n ne => hq dx n ne⟩⟩
end MP
end

section
set_option autoImplicit false
set_option linter.all false
set_option maxRecDepth 100000
/-! From a program's text and what stands in the heap behind its top: Lk. -/
namespace MP
open PySem PySem.Spec PyProof.Rows L2
/-! ### parameters -/
theorem lookup_zip_some {ps : List Str} : ∀ {us : List Value} {n : Str}, us.length = ps.length → n ∈ ps → ((ps.zip us).lookup n).isNone = false := by
  induction ps with
  | nil => intro us n _ h; cases h
  | cons p ps ih =>
    intro us n hl h
    cases us with
    | nil => cases hl
    | cons u us =>
      rw [List.zip_cons_cons, List.lookup_cons]
      by_cases e : n = p
      · subst e; simp
      · rw [beq_eq_false_iff_ne.mpr e]
        rcases List.mem_cons.mp h with z | z
        · exact absurd z e
        · exact ih (by simpa using hl) z
theorem zip_back {f : Str → Option Value} : ∀ {ps : List Str} {us : List Value}, ps.Nodup → us.length = ps.length → (∀ n ∈ ps, f n = (ps.zip us).lookup n) → ps.filterMap (fun n => (f n).map fun v => (n, v)) = ps.zip us
  | [], _, _, _, _ => rfl
  | p :: ps, [], _, hl, _ => by cases hl
  | p :: ps, u :: us, nd, hl, h => by
    have h0 := h p List.mem_cons_self
    rw [List.zip_cons_cons, List.lookup_cons] at h0
    have nd' := List.nodup_cons.mp nd
    rw [List.filterMap_cons, h0]
    simp only [beq_self_eq_true, Option.map_some, List.zip_cons_cons, List.cons.injEq, true_and]
    refine zip_back nd'.2 (by simpa using hl) fun n hn => ?_
    have hne : (n == p) = false := beq_eq_false_iff_ne.mpr fun e => nd'.1 (e ▸ hn)
    rw [h n (List.mem_cons_of_mem _ hn), List.zip_cons_cons, List.lookup_cons, hne]
theorem binds_gen {fd : FuncData} {as : List PySem.Arg} {us : List Value} (h : fd.params = ⟨[], as, none, [], [], none, []⟩) (hd : fd.defaults = .none) (nd : (as.map (·.arg)).Nodup) (hl : us.length = as.length) :
    bindArgs fd ⟨us, []⟩ = pure ((as.map (·.arg)).zip us) := by
  have hm : ((as.map (·.arg)).filter fun n => (((as.map (·.arg)).zip us).lookup n).isNone) = [] := by
    rw [List.filter_eq_nil_iff]
    intro n hn
    rw [lookup_zip_some (by simpa using hl) hn]
    simp
  have hb : (as.map (·.arg)).filterMap (fun n => (((as.map (·.arg)).zip us).lookup n).map fun v => (n, v)) = (as.map (·.arg)).zip us := zip_back nd (by simpa using hl) fun _ _ => rfl
  have hs : seqItems? Value.none = pure none := rfl
  unfold bindArgs
  simp only [h, hd, hs]
  simp [hl, hm, List.take_of_length_le]
  rw [List.filterMap_map] at hb
  exact congrArg pure hb
def argsB (ps : List Str) (a : Arguments) : Bool := match a with
  | ⟨[], as, none, [], [], none, []⟩ => decide (as.map (·.arg) = ps)
  | _ => false
theorem argsB_ok {ps : List Str} {a : Arguments} (h : argsB ps a = true) : ∃ as, a = ⟨[], as, none, [], [], none, []⟩ ∧ as.map (·.arg) = ps := by
  unfold argsB at h
  split at h
  · exact ⟨_, rfl, of_decide_eq_true h⟩
  · cases h
theorem binds_of {K : PySem.W.Frag} {fd : FuncData} {ps : List Str} (h : argsB ps fd.params = true) (hd : fd.defaults = .none) (nd : ps.Nodup) : Binds K fd ps [] := by
  obtain ⟨as, e, rfl⟩ := argsB_ok h
  exact .all fun us hl => binds_gen e hd nd (by simpa using hl)
theorem bindsA_of {K : PySem.W.Frag} {fd : FuncData} {ps : List Str} (h : argsB ps fd.params = true) (hd : fd.defaults = .none) (nd : ps.Nodup) : BindsA K fd ps := by
  refine ⟨binds_of h hd nd, ?_⟩
  obtain ⟨as, e, rfl⟩ := argsB_ok h
  exact fun us hl => binds_gen e hd nd (by simpa using hl)
def scopeB (N ps : List Str) (sc : Scope) : Bool := decide (sc.kind = .function) && !sc.isCoroutine && !sc.isGenerator && decide N.Nodup && decide (N.take ps.length = ps) && (ps.all fun x => isSto sc x) && sc.names.all fun y => decide (y.2 ≠ .free)
theorem scopeB_ok {N ps : List Str} {sc : Scope} (h : scopeB N ps sc = true) : FnScope N ps sc := by
  unfold scopeB at h
  simp only [Bool.and_eq_true, decide_eq_true_eq, Bool.not_eq_true'] at h
  obtain ⟨⟨⟨⟨⟨⟨h1, h2⟩, h3⟩, h4⟩, h5⟩, h6⟩, h7⟩ := h
  exact ⟨h1, h2, h3, h4, h5, fun x hx => sto_of (List.all_eq_true.mp h6 x hx), fun y hy => of_decide_eq_true (List.all_eq_true.mp h7 y hy)⟩
def supScopeB (ps : List Str) (sc : Scope) : Bool := decide (sc.kind = .function) && !sc.isCoroutine && !sc.isGenerator && decide ps.Nodup && (ps.all fun x => isLoc sc x) && decide (sc.names.lookup ("__class__" : Str) = some .free) && (sc.names.all fun y => decide (y.2 ≠ .free) || decide (y.1 = ("__class__" : Str))) && sc.names.all fun y => decide (y.2 ≠ .cell)
theorem supScopeB_ok {ps : List Str} {sc : Scope} (h : supScopeB ps sc = true) : SupScope ps ps sc := by
  unfold supScopeB at h
  simp only [Bool.and_eq_true, decide_eq_true_eq, Bool.not_eq_true'] at h
  obtain ⟨⟨⟨⟨⟨⟨⟨h1, h2⟩, h3⟩, h4⟩, h5⟩, h6⟩, h7⟩, h8⟩ := h
  refine ⟨h1, h2, h3, h4, List.take_length .., fun x hx => loc_of (List.all_eq_true.mp h5 x hx), h6, fun y hy hf => ?_, fun y hy => of_decide_eq_true (List.all_eq_true.mp h8 y hy)⟩
  have := List.all_eq_true.mp h7 y hy
  rw [Bool.or_eq_true, decide_eq_true_eq, decide_eq_true_eq] at this
  exact this.resolve_left fun z => z hf
/-! ### what is looked at behind the top -/
def fdAt (K : PySem.W.Frag) (f : Addr) : Option FuncData := match K.lookup f with
  | some ⟨_, _, .func fd, _⟩ => some fd
  | _ => none
def ccOf (K : PySem.W.Frag) (f : Addr) : Addr := match fdAt K f with
  | some fd => (match fd.closure with
    | [(_, cc)] => cc
    | _ => 0)
  | none => 0
def cdaOf (K : PySem.W.Frag) (f : Addr) : Addr := match fdAt K f with
  | some fd => (match fd.code with
    | .ref a => a
    | _ => 0)
  | none => 0
def oexB (K : PySem.W.Frag) (C : Addr) : Bool := (match K.lookup C with
  | some ⟨.type "type", _, .cls cd, sl⟩ => (match cd.mro, sl.toList with
    | .ref C' :: bm, [_, _, _, _, some (.builtin n), _] => decide (C' = C) && decide (n = "ValueError.__new__") && !cd.hasDel && cd.hasDict && HandSPX.refsVE bm
    | _, _ => false)
  | _ => false) && decide (PySem.W.findIn K (.ref C) "__setattr__" = some (some (.builtin "object.__setattr__"))) && decide (PySem.W.subIn K (.ref C) (.type "BaseException") = some true) && decide (PySem.W.typeIn K (.ref C) = some (.type "type")) && PySem.W.keepIn K (.ref C)
theorem oexB_ok {K : PySem.W.Frag} {C : Addr} (h : oexB K C = true) : OexC K C := by
  unfold oexB at h
  simp only [Bool.and_eq_true, decide_eq_true_eq] at h
  obtain ⟨⟨⟨⟨h1, h2⟩, h3⟩, h4⟩, h5⟩ := h
  refine ⟨?_, h2, h3, h4, h5⟩
  split at h1
  · rename_i dd cd sl ho
    split at h1
    · rename_i C' bm k0 k1 k2 k3 n k5 hm hs
      simp only [Bool.and_eq_true, decide_eq_true_eq, Bool.not_eq_true'] at h1
      obtain ⟨⟨⟨⟨rfl, rfl⟩, hdel⟩, hdct⟩, ht⟩ := h1
      obtain ⟨nm, bs, mro, ns, qn, hd, sn, sub, ab, col, del⟩ := cd
      dsimp only at hm hdel hdct
      subst hm hdel hdct
      have hsl : sl = #[k0, k1, k2, k3, some (.builtin "ValueError.__new__"), k5] := by
        obtain ⟨l⟩ := sl
        simp only at hs
        rw [hs]
      subst hsl
      exact ⟨nm, qn, ns, bs, bm, sn, sub, ab, col, dd, k0, k1, k2, k3, k5, ho, ht⟩
    · cases h1
  · cases h1
/-- a class that can be raised, but for its __init__'s text -/
def raiseB (K : PySem.W.Frag) (C : Addr) (file : Str) (flds : List String) : Bool :=
  oexB K C && xfB K C && decide (PySem.W.findIn K (.ref C) "__class__" = some (some (.builtin "object.__class__"))) && decide (PySem.W.specialIn K (.builtin "object.__class__") "__get__" = some (some (.builtin "getset_descriptor.__get__"))) &&
  decide (PySem.W.takesIn K (.builtin "object.__class__") = some true) && decide (PySem.W.mroIn K C (.type "object") = some true) && (PySem.W.clsIn K C).isSome &&
  decide (PySem.W.findIn K (.ref C) "__init__" = some (some (.ref (He.ma K C "__init__")))) && decide (PySem.W.typeIn K (.ref (He.ma K C "__init__")) = some (.type "function")) &&
  (match fdAt K (He.ma K C "__init__") with
    | some fd => decide (fd.closure = [(("__class__" : Str), ccOf K (He.ma K C "__init__"))]) && decide (fd.code = .ref (cdaOf K (He.ma K C "__init__"))) && PySem.W.codeIn K (.ref (cdaOf K (He.ma K C "__init__"))) fd.qualname
    | none => false) &&
  (match K.lookup (ccOf K (He.ma K C "__init__")) with
    | some ⟨_, _, .cell (some (.ref C')), _⟩ => decide (C' = C)
    | _ => false) &&
  (match K.lookup (cdaOf K (He.ma K C "__init__")) with
    | some ⟨_, _, .fields vs, _⟩ => (match (vs[2]? : Option Value) with
      | some (.str f _) => (file == f)
      | _ => false)
    | _ => false) &&
  decide (PySem.W.mroIn K C (.ref C) = some true) && decide (PySem.W.nsIn K PySem.cStatics "thirdparty.any" = some none) && decide (PySem.W.ks_superIn K C C "__init__" = some (some (.builtin "ValueError.__init__"))) &&
  decide (PySem.W.subIn K (.ref C) (.type "ValueError") = some true) && flds.all fun g => decide (PySem.W.findIn K (.ref C) (Str.ofString g) = some none)
abbrev InV : Type := Option (Str × Str × Arguments × FuncBody × Scope × Addr × Value × Addr)
def inObs (K : PySem.W.Frag) (x : Str) : InV := match fdAt K (He.ma K (He.ga K x) "__init__") with
  | some fd => some (fd.name, fd.qualname, fd.params, fd.body, fd.scope, fd.globals, fd.defaults, fd.builtins)
  | none => none
/-- the first def of a class -/
def initOf : Stmt → Stmt
  | .ClassDef (body := s :: _) .. => s
  | s => s
def inVal (st : Stmt) (q : Str) : InV := some ("__init__", q, defArgs (initOf st), .stmts (defBody (initOf st)), defScope (initOf st), mainGlobals, .none, builtinsNs)
structure ClsK (K : PySem.W.Frag) (C : Addr) (st : Stmt) (q file : Str) (flds : List String) (f cc cda : Addr) : Prop where
  oex : OexC K C
  xf : XfC K C
  ha : PySem.W.findIn K (.ref C) "__class__" = some (some (.builtin "object.__class__"))
  hn : PySem.W.specialIn K (.builtin "object.__class__") "__get__" = some (some (.builtin "getset_descriptor.__get__"))
  ht : PySem.W.takesIn K (.builtin "object.__class__") = some true
  hm : PySem.W.mroIn K C (.type "object") = some true
  cl : (PySem.W.clsIn K C).isSome = true
  ini : PySem.W.findIn K (.ref C) "__init__" = some (some (.ref f))
  tI : PySem.W.typeIn K (.ref f) = some (.type "function")
  lk : ∃ oc od osl kV doc pm an ct, K.lookup f = some ⟨oc, od, .func (PySem.W.ksFn "__init__" q (defArgs st) (defBody st) (defScope st) .none kV doc pm an (.ref cda) ct cc), osl⟩
  hcd : PySem.W.codeIn K (.ref cda) q = true
  code : ∃ ccl cdd vs ccs f tf, K.lookup cda = some ⟨ccl, cdd, .fields vs, ccs⟩ ∧ vs[2]? = some (.str f tf) ∧ (file == f) = true
  cell : ∃ ccl cld csl, K.lookup cc = some ⟨ccl, cld, .cell (some (.ref C)), csl⟩
  sub : PySem.W.mroIn K C (.ref C) = some true
  third : PySem.W.nsIn K PySem.cStatics "thirdparty.any" = some none
  init : PySem.W.ks_superIn K C C "__init__" = some (some (.builtin "ValueError.__init__"))
  ve : PySem.W.subIn K (.ref C) (.type "ValueError") = some true
  nof : ∀ g ∈ flds, PySem.W.findIn K (.ref C) (Str.ofString g) = some none
theorem clsK_of {K : PySem.W.Frag} {x : Str} {st : Stmt} {q file : Str} {flds : List String} (h : raiseB K (He.ga K x) file flds = true) (e : inObs K x = inVal st q) :
    ClsK K (He.ga K x) (initOf st) q file flds (He.ma K (He.ga K x) "__init__") (ccOf K (He.ma K (He.ga K x) "__init__")) (cdaOf K (He.ma K (He.ga K x) "__init__")) := by
  unfold raiseB at h
  simp only [Bool.and_eq_true, decide_eq_true_eq] at h
  obtain ⟨⟨⟨⟨⟨⟨⟨⟨⟨⟨⟨⟨⟨⟨⟨⟨h1, h2⟩, h3⟩, h4⟩, h5⟩, h6⟩, h7⟩, h8⟩, h9⟩, h10⟩, h11⟩, h12⟩, h13⟩, h14⟩, h15⟩, h16⟩, h17⟩ := h
  generalize hC : He.ga K x = C at *
  generalize hf : He.ma K C "__init__" = f at *
  have e : (match fdAt K f with
    | some fd => some (fd.name, fd.qualname, fd.params, fd.body, fd.scope, fd.globals, fd.defaults, fd.builtins)
    | none => none) = inVal st q := by
    have e' := e
    unfold inObs at e'
    rw [hC, hf] at e'
    exact e'
  cases hfd : fdAt K f with
  | none => rw [hfd] at h10; cases h10
  | some fd =>
    rw [hfd] at h10 e
    simp only [Bool.and_eq_true, decide_eq_true_eq] at h10
    obtain ⟨⟨c1, c2⟩, c3⟩ := h10
    have hlk : ∃ oc od osl, K.lookup f = some ⟨oc, od, .func fd, osl⟩ := by
      unfold fdAt at hfd
      split at hfd
      · cases hfd; exact ⟨_, _, _, ‹_›⟩
      · cases hfd
    obtain ⟨oc, od, osl, lk⟩ := hlk
    refine ⟨oexB_ok h1, xfB_ok h2, h3, h4, h5, h6, h7, h8, h9, ?_, ?_, ?_, ?_, h13, h14, h15, h16, fun g hg => of_decide_eq_true (List.all_eq_true.mp h17 g hg)⟩
    · generalize ccOf K f = cc at *
      generalize cdaOf K f = cda at *
      obtain ⟨n1, n2, n3, n4, n5, n6, n7, n8, n9, n10, n11, n12, n13, n14, n15⟩ := fd
      dsimp only at c1 c2 e
      subst c1 c2
      have e2 : (some (n1, n2, n3, n4, n5, n6, n8, n15) : InV) = inVal st q := e
      unfold inVal at e2
      simp only [Option.some.injEq, Prod.mk.injEq] at e2
      obtain ⟨rfl, rfl, rfl, rfl, rfl, rfl, rfl, rfl⟩ := e2
      exact ⟨oc, od, osl, _, _, _, _, _, lk⟩
    · have : fd.qualname = q := by
        unfold inVal at e
        simp only [Option.some.injEq, Prod.mk.injEq] at e
        exact e.2.1
      rw [← this]; exact c3
    · split at h12
      · split at h12
        · exact ⟨_, _, _, _, _, _, ‹_›, ‹_›, h12⟩
        · cases h12
      · cases h12
    · split at h11
      · have := of_decide_eq_true h11
        subst this
        exact ⟨_, _, _, ‹_›⟩
      · cases h11
end MP
end

section
set_option autoImplicit false
set_option linter.all false
set_option maxRecDepth 100000
/-! Own exception classes: RaiseAt of each kind. A program's table: Lk. -/
namespace MP
open PySem PySem.Spec PyProof.Rows L2
section
variable {P : Program} {w : World} {K : PySem.W.Frag} {mg : Str → Option Value} {base : Heap} {C f cc cda : Addr} {st : Stmt} {q : Str} {flds : List String}
/-- what the text says of an __init__, whatever it does -/
structure IniT (P : Program) (st : Stmt) (sf : Str) (ps : List Str) : Prop where
  args : argsB (sf :: ps) (defArgs st) = true
  sc : supScopeB (sf :: ps) (defScope st) = true
  sup : (defScope st).names.lookup ("super" : Str) = some .globalImplicit
  top : (P.main.scope.names.lookup ("super" : Str)).isSome = false
def iniB (P : Program) (st : Stmt) (sf : Str) (ps : List Str) : Bool := argsB (sf :: ps) (defArgs st) && supScopeB (sf :: ps) (defScope st) && decide ((defScope st).names.lookup ("super" : Str) = some .globalImplicit) && !(P.main.scope.names.lookup ("super" : Str)).isSome
theorem iniB_ok {sf : Str} {ps : List Str} (h : iniB P st sf ps = true) : IniT P st sf ps := by
  unfold iniB at h
  simp only [Bool.and_eq_true, decide_eq_true_eq, Bool.not_eq_true'] at h
  exact ⟨h.1.1.1, h.1.1.2, h.1.2, h.2⟩
theorem supK_of {sf : Str} {ps : List Str} (k : ClsK K C st q (P.main.file : Str) flds f cc cda) (t : IniT P st sf ps) (hm : mg "super" = none) : ∀ fd, (∃ oc od osl, K.lookup f = some ⟨oc, od, .func fd, osl⟩) → SupK P K mg (defScope st) f cc cda C fd sf := fun fd ⟨oc, od, osl, e⟩ => by
  obtain ⟨oc', od', osl', kV, doc, pm, an, ct, lk⟩ := k.lk
  have hp : fd.params = defArgs st := by
    rw [lk] at e
    cases e
    rfl
  obtain ⟨as, ea, em⟩ := argsB_ok t.args
  refine ⟨⟨oc, od, osl, e⟩, ?_, k.code, k.cell, ?_, k.sub, t.sup, hm, t.top, k.third, k.init, k.ve⟩
  · rw [hp, ea]
    cases as with
    | nil => cases em
    | cons a r =>
      rw [List.map_cons] at em
      exact ⟨a, rfl, (List.cons.inj em).1⟩
  · exact Option.isSome_iff_exists.mp k.cl
theorem raise_at {kind : XKind} {ups : List String} {sf : Str} {ps : List Str} (k : ClsK K C st q (P.main.file : Str) flds f cc cda) (t : IniT P st sf ps) (nd : (flds.map Str.ofString).Nodup)
    (F : ∀ oc od osl kV doc pm an ct, K.lookup f = some ⟨oc, od, .func (PySem.W.ksFn "__init__" q (defArgs st) (defBody st) (defScope st) .none kV doc pm an (.ref cda) ct cc), osl⟩ →
      FnOk P w K mg base (L2.CX P w) 1 f (PySem.W.ksFn "__init__" q (defArgs st) (defBody st) (defScope st) .none kV doc pm an (.ref cda) ct cc) (sf :: ps) (spN kind C flds)) : RaiseAt P w K mg base C ⟨kind, flds, ups⟩ := by
  obtain ⟨oc, od, osl, kV, doc, pm, an, ct, lk⟩ := k.lk
  have S := supScopeB_ok t.sc
  exact ⟨k.oex, k.xf, k.ha, k.hn, k.ht, k.hm, k.cl, ⟨f, _, sf :: ps, k.ini, k.tI, binds_of t.args rfl S.nd, F _ _ _ _ _ _ _ _ lk⟩, k.nof, nd⟩
def pl (x : Str) : Bool := !(x == ("__debug__" : Str)) && !(x == ("__classdict__" : Str))
theorem pl_ok {x : Str} (h : pl x = true) : (x == ("__debug__" : Str)) = false ∧ (x == ("__classdict__" : Str)) = false := by
  unfold pl at h
  simpa using h
theorem raise_one {ups : List String} {sf x lit : Str} {fl : String} {p0 p1 p2 p3 p4 p5 p6 p7 p8 p9 p10 pos pos' : Pos} {n1 : Nat} (k : ClsK K C st q (P.main.file : Str) [fl] f cc cda) (hm : mg "super" = none)
    (hb : defBody st = [PySem.Stmt.Expr (PySem.Expr.Call (.Attribute (.Call (.Name "super" p0) [] [] p1) "__init__" p2) [.JoinedStr [.Constant (.str lit) n1 p3, .FormattedValue (.Name x p4) (-1) none p5] p6] [] pos) pos',
      .Assign [.Attribute (.Name sf p7) (Str.ofString fl) p8] (.Name x p9) p10]) (t : iniB P st sf [x] = true) (hpl : (pl sf && pl x && decide (lit.length ≤ 900) && (p2.endLine == pos.line)) = true) : RaiseAt P w K mg base C ⟨.one, [fl], ups⟩ := by
  have T := iniB_ok t
  simp only [Bool.and_eq_true, decide_eq_true_eq] at hpl
  obtain ⟨⟨⟨h1, h2⟩, h3⟩, h4⟩ := hpl
  refine raise_at k T (by simp) fun oc od osl kV doc pm an ct lk => ?_
  have SK := supK_of k T hm
  rw [hb] at lk ⊢
  exact fn_one lk k.hcd (supScopeB_ok T.sc) SK k.oex h4 h3 (k.nof _ (by simp)) (pl_ok h1).1 (pl_ok h2).1 (pl_ok h1).2 (pl_ok h2).2
theorem raise_two {ups : List String} {sf x1 x2 l1 l2 : Str} {f1 f2 : String} {p0 p1 p2 p3 p4 p5 p6 p7 p8 p9 p10 p11 p12 p13 p14 p15 p16 p17 pos pos' : Pos} {n1 n2 : Nat} (k : ClsK K C st q (P.main.file : Str) [f1, f2] f cc cda) (hm : mg "super" = none)
    (hb : defBody st = [PySem.Stmt.Expr (PySem.Expr.Call (.Attribute (.Call (.Name "super" p0) [] [] p1) "__init__" p2) [.JoinedStr [.Constant (.str l1) n1 p3, .FormattedValue (.Name x1 p4) (-1) none p5, .Constant (.str l2) n2 p11, .FormattedValue (.Name x2 p12) (-1) none p13] p6] [] pos) pos',
      .Assign [.Attribute (.Name sf p7) (Str.ofString f1) p8] (.Name x1 p9) p10, .Assign [.Attribute (.Name sf p14) (Str.ofString f2) p15] (.Name x2 p16) p17]) (t : iniB P st sf [x1, x2] = true)
    (hpl : (pl sf && pl x1 && pl x2 && decide (l1.length ≤ 900) && decide (l2.length ≤ 900) && (p2.endLine == pos.line) && decide (([f1, f2].map Str.ofString).Nodup)) = true) : RaiseAt P w K mg base C ⟨.two, [f1, f2], ups⟩ := by
  have T := iniB_ok t
  simp only [Bool.and_eq_true, decide_eq_true_eq] at hpl
  obtain ⟨⟨⟨⟨⟨⟨h1, h2⟩, h5⟩, h3⟩, h6⟩, h4⟩, nd⟩ := hpl
  refine raise_at k T nd fun oc od osl kV doc pm an ct lk => ?_
  have SK := supK_of k T hm
  rw [hb] at lk ⊢
  exact fn_two lk k.hcd (supScopeB_ok T.sc) SK k.oex h4 h3 h6 (k.nof _ (by simp)) (k.nof _ (by simp)) (pl_ok h1).1 (pl_ok h2).1 (pl_ok h5).1 (pl_ok h1).2 (pl_ok h2).2 (pl_ok h5).2
theorem raise_many {ups : List String} {sf x1 x2 l1 l2 : Str} {f1 f2 : String} {p0 p1 p2 p3 p4 p5 p6 p7 p8 p9 p10 p11 p12 p13 p14 p15 p16 p17 pos pos' : Pos} {n1 n2 : Nat} (k : ClsK K C st q (P.main.file : Str) [f1, f2] f cc cda) (hm : mg "super" = none)
    (hb : defBody st = [PySem.Stmt.Expr (PySem.Expr.Call (.Attribute (.Call (.Name "super" p0) [] [] p1) "__init__" p2) [.JoinedStr [.Constant (.str l1) n1 p3, .FormattedValue (.Name x2 p4) (-1) none p5, .Constant (.str l2) n2 p11, .FormattedValue (.Name x1 p12) (-1) none p13] p6] [] pos) pos',
      .Assign [.Attribute (.Name sf p7) (Str.ofString f1) p8] (.Name x1 p9) p10, .Assign [.Attribute (.Name sf p14) (Str.ofString f2) p15] (.Name x2 p16) p17]) (t : iniB P st sf [x1, x2] = true)
    (hpl : (pl sf && pl x1 && pl x2 && decide (l1.length ≤ 900) && decide (l2.length ≤ 900) && (p2.endLine == pos.line) && decide (([f1, f2].map Str.ofString).Nodup)) = true) : RaiseAt P w K mg base C ⟨.many, [f1, f2], ups⟩ := by
  have T := iniB_ok t
  simp only [Bool.and_eq_true, decide_eq_true_eq] at hpl
  obtain ⟨⟨⟨⟨⟨⟨h1, h2⟩, h5⟩, h3⟩, h6⟩, h4⟩, nd⟩ := hpl
  refine raise_at k T nd fun oc od osl kV doc pm an ct lk => ?_
  have SK := supK_of k T hm
  rw [hb] at lk ⊢
  exact fn_many lk k.hcd (supScopeB_ok T.sc) SK k.oex h4 h3 h6 (k.nof _ (by simp)) (k.nof _ (by simp)) (pl_ok h1).1 (pl_ok h2).1 (pl_ok h5).1 (pl_ok h1).2 (pl_ok h2).2 (pl_ok h5).2
theorem raise_quiet {ups : List String} {sf x lit : Str} {fl : String} {p0 p1 p2 p3 p7 p8 p9 p10 pos pos' : Pos} {n1 : Nat} (k : ClsK K C st q (P.main.file : Str) [fl] f cc cda) (hm : mg "super" = none)
    (hb : defBody st = [PySem.Stmt.Expr (PySem.Expr.Call (.Attribute (.Call (.Name "super" p0) [] [] p1) "__init__" p2) [.Constant (.str lit) n1 p3] [] pos) pos',
      .Assign [.Attribute (.Name sf p7) (Str.ofString fl) p8] (.Name x p9) p10]) (t : iniB P st sf [x] = true) (hpl : (pl sf && pl x && (p2.endLine == pos.line)) = true) : RaiseAt P w K mg base C ⟨.quiet, [fl], ups⟩ := by
  have T := iniB_ok t
  simp only [Bool.and_eq_true, decide_eq_true_eq] at hpl
  obtain ⟨⟨h1, h2⟩, h4⟩ := hpl
  refine raise_at k T (by simp) fun oc od osl kV doc pm an ct lk => ?_
  have SK := supK_of k T hm
  rw [hb] at lk ⊢
  exact fn_quiet lk k.hcd (supScopeB_ok T.sc) SK k.oex h4 (k.nof _ (by simp)) (pl_ok h1).1 (pl_ok h2).1 (pl_ok h1).2 (pl_ok h2).2
end
/-! ### a program's table -/
structure DefRow where
  nm : String
  idx : Nat
  N : List String
  F : MFun
structure ClRow where
  nm : String
  idx : Nat
  info : XCls
structure Src where
  rows : List DefRow
  con : List (String × D)
  cl : List ClRow
def Src.L (S : Src) : Table := ⟨fun f => (S.rows.find? fun r => r.nm == f).map (·.F), fun x => S.con.lookup x, fun c => (S.cl.find? fun r => r.nm == c).map (·.info)⟩
mutual
def valB (K : PySem.W.Frag) : D → Value → Bool
  | .none, u => decide (u = .none)
  | .bool b, u => decide (u = .bool b)
  | .int i, u => (match u with
    | .int j _ => decide (j = i)
    | _ => false)
  | .str x, u => (match u with
    | .str y _ => decide (y = x)
    | _ => false)
  | .tuple ds, u => (match u with
    | .ref a => (match K.lookup a with
      | some ⟨.type "tuple", none, .seq its n, sl⟩ => decide (sl = #[]) && decide (its.size ≤ sizeLine) && valsB K ds its.toList
      | _ => false)
    | _ => false)
  | .list _, _ => false
  | .dict _, _ => false
def valsB (K : PySem.W.Frag) : List D → List Value → Bool
  | [], us => us.isEmpty
  | d :: ds, us => match us with
    | u :: us => valB K d u && valsB K ds us
    | [] => false
end
mutual
theorem valB_ok {K : PySem.W.Frag} : ∀ {d : D} {u : Value}, valB K d u = true → ∃ v : V, RelV v u ∧ ∀ (H : Hp) (T : Addr → Prop), Rp K H T v d
  | .none, u, h => by
    unfold valB at h
    obtain rfl := of_decide_eq_true h
    exact ⟨.non, rfl, fun _ _ => .non⟩
  | .bool b, u, h => by
    unfold valB at h
    obtain rfl := of_decide_eq_true h
    exact ⟨.bl b, rfl, fun _ _ => .bl _⟩
  | .int i, u, h => by
    unfold valB at h
    split at h
    · obtain rfl := of_decide_eq_true h
      exact ⟨.int _, ⟨_, rfl⟩, fun _ _ => .int _⟩
    · cases h
  | .str x, u, h => by
    unfold valB at h
    split at h
    · obtain rfl := of_decide_eq_true h
      exact ⟨.str _, ⟨_, rfl⟩, fun _ _ => .str _⟩
    · cases h
  | .tuple ds, u, h => by
    unfold valB at h
    split at h
    · split at h
      · rename_i a _ its n sl hk
        simp only [Bool.and_eq_true, decide_eq_true_eq] at h
        obtain ⟨⟨rfl, hz⟩, hv⟩ := h
        obtain ⟨vs, r, hr⟩ := valsB_ok hv
        exact ⟨.ref a, rfl, fun H T => .tup (.inr ⟨its, n, hk, hz, r⟩) (hr H T)⟩
      · cases h
    · cases h
  | .list _, _, h => by unfold valB at h; cases h
  | .dict _, _, h => by unfold valB at h; cases h
theorem valsB_ok {K : PySem.W.Frag} : ∀ {ds : List D} {us : List Value}, valsB K ds us = true → ∃ vs : List V, Vals vs us ∧ ∀ (H : Hp) (T : Addr → Prop), RpAll K H T vs ds
  | [], us, h => by
    unfold valsB at h
    cases us with
    | nil => exact ⟨[], .nil, fun _ _ => .nil⟩
    | cons _ _ => cases h
  | d :: ds, us, h => by
    unfold valsB at h
    cases us with
    | nil => cases h
    | cons u us =>
      rw [Bool.and_eq_true] at h
      obtain ⟨v, r, hr⟩ := valB_ok h.1
      obtain ⟨vs, r', hr'⟩ := valsB_ok h.2
      exact ⟨v :: vs, .cons r r', fun H T => .cons (hr H T) (hr' H T)⟩
end
def conB (K : PySem.W.Frag) (p : String × D) : Bool := match PySem.W.nsIn K mainGlobals (Str.ofString p.1) with
  | some (some u) => valB K p.2 u
  | _ => false
def gaS (K : PySem.W.Frag) (x : String) : Addr := He.ga K (Str.ofString x)
def gloB (K : PySem.W.Frag) (x : String) : Bool := decide (PySem.W.nsIn K mainGlobals (Str.ofString x) = some (some (.ref (gaS K x))))
def Src.ck (S : Src) (file : Str) (K : PySem.W.Frag) : Bool :=
  (bltNames.all fun x => decide (PySem.W.nsIn K mainGlobals x = some none)) && decide (PySem.W.nsIn K mainGlobals "super" = some none) &&
  (S.rows.all fun r => gloB K r.nm && PySem.W.keepIn K (.ref (gaS K r.nm)) && (He.Fa.code (Str.ofString r.nm, none) (Str.ofString r.nm)).ok K) &&
  (S.con.all fun p => conB K p) &&
  (S.cl.all fun r => gloB K r.nm && (decide (r.info.kind = .base) || raiseB K (gaS K r.nm) file r.info.flds)) &&
  S.cl.all fun r => decide (r.info.kind = .base) || S.cl.all fun r' => decide (PySem.W.exmOne K (.ref (gaS K r.nm)) (.ref (gaS K r'.nm)) = some (r.info.ups.contains r'.nm)) && decide (PySem.W.kitOne K (.ref (gaS K r.nm)) (.ref (gaS K r'.nm)) = some (r.info.ups.contains r'.nm))
abbrev AlM : Type := Bool × List He.FnV × List InV
def Src.rs (S : Src) : List ClRow := S.cl.filter fun r => !decide (r.info.kind = .base)
def Src.obsM (S : Src) (file : Str) (K : PySem.W.Frag) : AlM := (S.ck file K, S.rows.map (fun r => He.fnObs K (Str.ofString r.nm, none)), S.rs.map fun r => inObs K (Str.ofString r.nm))
def fnD (top : Nat → Stmt) (r : DefRow) : He.FnD := ⟨(Str.ofString r.nm, none), Str.ofString r.nm, Str.ofString r.nm, defArgs (top r.idx), defBody (top r.idx), defScope (top r.idx)⟩
def Src.valM (S : Src) (top : Nat → Stmt) : AlM := (true, S.rows.map (fun r => (fnD top r).val), S.rs.map fun r => inVal (top r.idx) (Str.ofString (r.nm ++ ".__init__")))
def asM (g : Addr → Option Obj) (n : Nat) : List Addr := He.asD g n ++ [PySem.cStatics]
def Src.obsMG (S : Src) (file : Str) (n : Nat) (g : Addr → Option Obj) : AlM := S.obsM file (He.frG g (asM g n))
def Src.says (S : Src) (file : Str) (top : Nat → Stmt) (K : PySem.W.Frag) : Prop := S.obsM file K = S.valM top
def Src.hook (S : Src) (file : Str) (top : Nat → Stmt) (n : Nat) : PySem.W.Hook where
  α := AlM
  obs := fun s => S.obsMG file n s.heap.get?
  val := fun _ => S.valM top
  says := fun _ h => ∃ K : PySem.W.Frag, K.In h ∧ S.says file top K
  of := fun _ _ e => ⟨_, He.frG_in, e⟩
  keeps := fun _ _ _ ⟨K, hK, c⟩ k => ⟨K, PySem.W.Frag.In.keeps hK k, c⟩
theorem Src.obsMG_eq {S : Src} {file : Str} {top : Nat → Stmt} {n : Nat} {g : Addr → Option Obj} {s : Shared} (h : ∀ a, g a = s.heap.get? a) : S.obsMG file n g = (S.hook file top n).obs s := by
  have e : g = s.heap.get? := funext h
  rw [e] <;> rfl
/-- a def's text, checked -/
def okDef (top : Nat → Stmt) (r : DefRow) : Bool := scopeB (r.N.map Str.ofString) ((r.N.map Str.ofString).take r.F.params) (defScope (top r.idx)) && argsB ((r.N.map Str.ofString).take r.F.params) (defArgs (top r.idx)) && decide (r.F.params ≤ r.N.length) && decide (r.N.length = r.F.slots) &&
  trSs (r.N.map Str.ofString) (defScope (top r.idx)) r.F.body (defBody (top r.idx))
theorem find_mem {α : Type} {p : α → Bool} {l : List α} {a : α} (h : l.find? p = some a) : a ∈ l ∧ p a = true := ⟨List.mem_of_find?_eq_some h, List.find?_some h⟩
theorem map_eq_at {α β : Type} {f g : α → β} : ∀ {l : List α}, l.map f = l.map g → ∀ a ∈ l, f a = g a
  | [], _, a, h => by cases h
  | x :: l, e, a, h => by
    rw [List.map_cons, List.map_cons] at e
    obtain ⟨h1, h2⟩ := List.cons.inj e
    rcases List.mem_cons.mp h with z | z
    · subst z; exact h1
    · exact map_eq_at h2 a z
theorem lookup_mem {α : Type} {x : String} {d : α} : ∀ {l : List (String × α)}, l.lookup x = some d → (x, d) ∈ l
  | [], h => by cases h
  | (y, e) :: l, h => by
    rw [List.lookup_cons] at h
    by_cases q : (x == y) = true
    · rw [q] at h
      cases h
      rw [eq_of_beq q]
      exact List.mem_cons_self
    · rw [show (x == y) = false by simpa using q] at h
      exact List.mem_cons_of_mem _ (lookup_mem h)
/-- each class that can be raised, shown so -/
def ClsOk (P : Program) (top : Nat → Stmt) (S : Src) : Prop := ∀ r ∈ S.cl, r.info.kind ≠ .base → ∀ (w : World) (K : PySem.W.Frag) (mg : Str → Option Value) (base : Heap) (C f cc cda : Addr), ClsK K C (initOf (top r.idx)) (Str.ofString (r.nm ++ ".__init__")) (P.main.file : Str) r.info.flds f cc cda → mg "super" = none → RaiseAt P w K mg base C r.info
theorem fnLk_of {P : Program} {w : World} {K : PySem.W.Frag} {mg : Str → Option Value} {h : Heap} {S : Src} {top : Nat → Stmt} (hd : S.rows.all (okDef top) = true) (X : K.In h) (G : h.Ns mainGlobals mg) (c : S.says (P.main.file : Str) top K) :
    ∀ f F, S.L.fn f = some F → FnLk P w K mg f F := fun f F hF => by
  have c1 : S.ck (P.main.file : Str) K = true := congrArg (fun z : AlM => z.1) c
  have c2 : S.rows.map (fun r => He.fnObs K (Str.ofString r.nm, none)) = S.rows.map fun r => (fnD top r).val := congrArg (fun z : AlM => z.2.1) c
  unfold Src.ck at c1
  simp only [Bool.and_eq_true] at c1
  obtain ⟨⟨⟨⟨⟨k1, k2⟩, k3⟩, k4⟩, k5⟩, k6⟩ := c1
  have glo : ∀ {x : String}, gloB K x = true → mg (Str.ofString x) = some (.ref (gaS K x)) := fun hx => PySem.W.mg_of X G (of_decide_eq_true hx)
  obtain ⟨r, hr, rfl⟩ := Option.map_eq_some_iff.mp (show (S.rows.find? fun r => r.nm == f).map (·.F) = some F from hF)
  obtain ⟨hm, hn⟩ := find_mem hr
  obtain rfl : r.nm = f := eq_of_beq hn
  have q := List.all_eq_true.mp k3 r hm
  simp only [Bool.and_eq_true] at q
  obtain ⟨⟨q1, q2⟩, q3⟩ := q
  have d := List.all_eq_true.mp hd r hm
  unfold okDef at d
  simp only [Bool.and_eq_true, decide_eq_true_eq] at d
  obtain ⟨⟨⟨⟨d1, d2⟩, d3⟩, d4⟩, d5⟩ := d
  obtain ⟨oc, od, osl, kV, doc, pm, an, cdv, ct, l, cd⟩ := He.fn_ok (d := fnD top r) (map_eq_at c2 r hm) q3
  have F := fun_mk (x := Str.ofString r.nm) (qual := Str.ofString r.nm) (st := top r.idx) l cd q2
  have S1 := scopeB_ok d1
  refine ⟨gaS K r.nm, _, _, glo q1, q2, bindsA_of (fd := PySem.W.fnOf (Str.ofString r.nm) (Str.ofString r.nm) (defArgs (top r.idx)) (defBody (top r.idx)) (defScope (top r.idx)) .none kV doc pm an cdv ct) d2 rfl (S1.nd.sublist (List.take_sublist _ _)), top r.idx, _, _, _, F, S1, ?_, ?_, d5⟩
  · rw [List.length_take, List.length_map]
    omega
  · rw [List.length_map]; exact d4
theorem lk_of {P : Program} {w : World} {K : PySem.W.Frag} {mg : Str → Option Value} {base h : Heap} {S : Src} {top : Nat → Stmt} (hd : S.rows.all (okDef top) = true) (hc : ClsOk P top S) (X : K.In h) (G : h.Ns mainGlobals mg) (c : S.says (P.main.file : Str) top K) :
    Lk P w K mg base (XRof K mg S.L.cls) S.L := by
  have c1 : S.ck (P.main.file : Str) K = true := congrArg (fun z : AlM => z.1) c
  have c2 : S.rows.map (fun r => He.fnObs K (Str.ofString r.nm, none)) = S.rows.map fun r => (fnD top r).val := congrArg (fun z : AlM => z.2.1) c
  have c3 : S.rs.map (fun r => inObs K (Str.ofString r.nm)) = S.rs.map fun r => inVal (top r.idx) (Str.ofString (r.nm ++ ".__init__")) := congrArg (fun z : AlM => z.2.2) c
  unfold Src.ck at c1
  simp only [Bool.and_eq_true] at c1
  obtain ⟨⟨⟨⟨⟨k1, k2⟩, k3⟩, k4⟩, k5⟩, k6⟩ := c1
  have glo : ∀ {x : String}, gloB K x = true → mg (Str.ofString x) = some (.ref (gaS K x)) := fun hx => PySem.W.mg_of X G (of_decide_eq_true hx)
  have hsup : mg "super" = none := PySem.W.mg_none_of X G (of_decide_eq_true k2)
  refine ⟨fun x hx => PySem.W.mg_none_of X G (of_decide_eq_true (List.all_eq_true.mp k1 x hx)), fun x d hx => ?_, ⟨fun n i hi => ?_, fun n i n' i' C C' hi hi' hk hm hm' => ?_, rfl⟩, fun f F hF => ?_⟩
  · have hm : (x, d) ∈ S.con := lookup_mem (show S.con.lookup x = some d from hx)
    have q := List.all_eq_true.mp k4 _ hm
    unfold conB at q
    split at q
    · rename_i u hu
      obtain ⟨v, r, hr⟩ := valB_ok q
      exact ⟨v, u, PySem.W.mg_of X G hu, r, hr⟩
    · cases q
  · obtain ⟨r, hr, rfl⟩ := Option.map_eq_some_iff.mp (show (S.cl.find? fun r => r.nm == n).map (·.info) = some i from hi)
    obtain ⟨hm, hn⟩ := find_mem hr
    obtain rfl : r.nm = n := eq_of_beq hn
    have q := List.all_eq_true.mp k5 r hm
    simp only [Bool.and_eq_true, Bool.or_eq_true, decide_eq_true_eq] at q
    refine ⟨gaS K r.nm, glo q.1, fun hk => ?_⟩
    have hrs : r ∈ S.rs := List.mem_filter.mpr ⟨hm, by simpa using hk⟩
    exact hc r hm hk w K mg base _ _ _ _ (clsK_of (q.2.resolve_left hk) (map_eq_at c3 r hrs)) hsup
  · obtain ⟨r, hr, rfl⟩ := Option.map_eq_some_iff.mp (show (S.cl.find? fun r => r.nm == n).map (·.info) = some i from hi)
    obtain ⟨hm1, hn⟩ := find_mem hr
    obtain rfl : r.nm = n := eq_of_beq hn
    obtain ⟨r', hr', rfl⟩ := Option.map_eq_some_iff.mp (show (S.cl.find? fun r => r.nm == n').map (·.info) = some i' from hi')
    obtain ⟨hm2, hn2⟩ := find_mem hr'
    obtain rfl : r'.nm = n' := eq_of_beq hn2
    have q := List.all_eq_true.mp k6 r hm1
    rw [Bool.or_eq_true, decide_eq_true_eq] at q
    have q2 := List.all_eq_true.mp (q.resolve_left hk) r' hm2
    simp only [Bool.and_eq_true, decide_eq_true_eq] at q2
    have e1 := List.all_eq_true.mp k5 r hm1
    have e2 := List.all_eq_true.mp k5 r' hm2
    rw [Bool.and_eq_true] at e1 e2
    rw [glo e1.1] at hm
    rw [glo e2.1] at hm'
    cases hm
    cases hm'
    exact q2
  · exact fnLk_of hd X G c f F hF
end MP
end

section
set_option autoImplicit false
set_option linter.all false
set_option maxRecDepth 100000
/-! A law's end. -/
namespace MP
open PySem PySem.Spec PyProof.Rows L2
theorem walk_ofM {l : PySem.W.OpenLaw} {n k : Nat} {q : Program} {loose : List Str} {XP : (Str → Option Value) → Heap → Prop} {YP : World → Heap → Prop} {d : DefRec} (hn : l.most = some n) (hn2 : n ≤ sizeLine) (hdf : d.params.defaults = []) (hr : Room k callerA)
    (F : ∀ (w : World) (mg : Str → Option Value) (fa : Addr) (h : Heap), YP w h → h.Ns mainGlobals mg → mg d.name = some (.ref fa) →
      ∃ (K : PySem.W.Frag) (fd : FuncData) (x : Str) (sp : Sp), K.In h ∧ (∀ (s : Shared) (u : Value), BindsTo s fd ⟨[u], []⟩ [(x, u)]) ∧
        (∀ (H : Hp) (a : Addr) (ns : List Int), ns.length ≤ n → Only H → SqL K H a (ns.map V.int) → sp [.ref a] H (fun v _ => v = .bl true) fun _ _ _ => False) ∧
        ∀ base : Heap, K.In base → base.Ns mainGlobals mg → FnOk l.prog w K mg base (L2.CX l.prog w) k fa fd [x] sp) :
    PySem.W.WalkO q loose XP YP l.row.toRowW d [] (fun f vs => PySem.call f vs) := by
  refine Att.attach_call hn hdf fun w s₀ s₁ mg mb fa o pm cd doc a vs ns G Y ho hd hcd hmg hobj hints hlen hg => ?_
  obtain ⟨K, fd, x, sp, KX, hb, hsp, hF⟩ := F w mg fa _ Y G.T.g hmg
  exact law_call KX G.T.g G.T.b G.T.builtins G.T.nolimit hg hobj hints (Nat.le_trans hlen hn2) hr hF hb (fun H hO hS => hsp H a ns hlen hO hS) fun H e s' c => by
    obtain ⟨_, _, _, _, _, _, _, _, _, _, _, _, z⟩ := c
    exact z
/-- the table's def law keeps the law, n + 1 calls deep -/
def KeepsN (L : Table) (n : Nat) : Prop := ∃ F, L.fn "law" = some F ∧ F.params = 1 ∧ ∀ ns : List Int, ns.length ≤ 63 → ∃ outs, runFun (callN L n) F [.b (.list (ns.map .int))] = .ret (.st (.bool true)) outs
theorem law_walk {l : PySem.W.OpenLaw} {S : Src} {top : Nat → Stmt} {n m : Nat} {q : Program} {loose : List Str} {XP : (Str → Option Value) → Heap → Prop} {d : DefRec} (hn : l.most = some 63) (hdf : d.params.defaults = []) (hnm : d.name = ("law" : Str)) (hr : Room (n + 3) callerA)
    (hd : S.rows.all (okDef top) = true) (hc : ClsOk l.prog top S) (hk : KeepsN S.L n) :
    PySem.W.WalkO q loose XP (S.hook (l.prog.main.file : Str) top m).says l.row.toRowW d [] (fun f vs => PySem.call f vs) := by
  refine walk_ofM hn (by decide) hdf hr fun w mg fa h Y G hmg => ?_
  obtain ⟨K, X, c⟩ := Y
  obtain ⟨F, hF, hp, hall⟩ := hk
  obtain ⟨fa', fd, ps, hat⟩ := (fnLk_of (P := l.prog) (w := w) hd X G c "law" F hF).ex
  have hfa : fa' = fa := by
    rw [hnm] at hmg
    have := hat.hm.symm.trans hmg
    cases this
    rfl
  subst hfa
  have hlen : ps.length = 1 := by
    obtain ⟨st, x, qual, N, _, _, h1, _, _⟩ := hat.ex
    rw [h1, hp]
  have spOne : ∀ (H : Hp) (a : Addr) (ns : List Int), ns.length ≤ 63 → SqL K H a (ns.map V.int) → spF K (XRof K mg S.L.cls) (runFun (callN S.L n) F) [.ref a] H (fun v _ => v = .bl true) fun _ _ _ => False := fun H a ns hl hS => by
    obtain ⟨outs, ho⟩ := hall ns hl
    have hints : ∀ (T : Addr → Prop) (kl : Prop) (ns : List Int), RqAll K H T kl (ns.map V.int) (ns.map .int) := fun T kl ns => by
      induction ns with
      | nil => exact .nil
      | cons i r ih => exact .cons (.int i) ih
    have fm : ∃ B : Addr → Prop, Fm K H (fun _ => False) B (fun _ => []) ([V.ref a].map some) [.b (.list (ns.map .int))] := by
      have mk : ∀ B : Addr → Prop, (∀ b, B b → H b ≠ none) → Rq K H (TB (fun _ => False) B) True (.ref a) (.list (ns.map .int)) → Fm K H (fun _ => False) B (fun _ => []) ([V.ref a].map some) [.b (.list (ns.map .int))] := fun B hb hq => by
        refine ⟨rfl, fun i => ?_, fun _ => List.nodup_nil, fun _ _ _ h => (nomatch h), fun _ _ h => (nomatch h), fun _ _ h => (nomatch h), fun _ h => h.elim, hb⟩
        cases i with
        | zero => exact ⟨rfl, .ref a, rfl, hq⟩
        | succ i => exact (rfl : ([] : List Addr) = [])
      rcases hS with hS | hS
      · refine ⟨fun b => b = a, mk _ (fun b e => ?_) (.lst (.inl ⟨.inr rfl, hS⟩) (hints _ _ ns))⟩
        subst e
        rcases hS with e | ⟨o, e⟩
        · rw [e]; simp
        · rw [e]; simp
      · exact ⟨fun _ => False, mk _ (fun _ h => h.elim) (.lst (.inr ⟨trivial, hS⟩) (hints _ _ ns))⟩
    obtain ⟨B, fm⟩ := fm
    refine ⟨_, B, _, _, fm, ?_⟩
    rw [ho]
    intro v H' T' fps' fp p
    have := p.rr.2
    cases this
    rfl
  match ps, hlen, hat with
  | [x], _, hat =>
    refine ⟨K, fd, x, _, X, fun s u => .of_eq (hat.hb.2 [u] rfl), fun H a ns hl _ hS => spOne H a ns hl hS, fun base Xb Gb => ?_⟩
    have lk := lk_of (P := l.prog) (w := w) (base := base) hd hc X G c
    exact fn_ok lk (fns_ok lk n) hat
end MP
end

section
set_option autoImplicit false
set_option linter.all false
set_option Elab.async false
set_option maxRecDepth 100000
set_option maxHeartbeats 0
namespace LW
open PySem PySem.Spec PyProof.Rows L2 MP
def top (i : Nat) : Stmt := PySem.Challenge.pw_rowtruce_k75_questions_checked.main.body.getD i (.Pass ⟨0, 0, 0, 0⟩)
/-- is_integer: 0 thing 1 low 2 high -/
def F_is_integer : MFun := { params := 3, slots := 3, io := [], body :=
    (.cons (.ret (.and (.b1 .isInt (.pk 0)) (.and (.not (.b1 .isBool (.pk 0))) (.chain .le .le (.var 1) (.var 0) (.var 2)))))
    .nil) }
/-- wrong_patterns: 0 columns 1 patterns 2 low 3 pattern 4 entry -/
def F_wrong_patterns : MFun := { params := 3, slots := 5, io := [], body :=
    (.cons (.ite (.or (.not (.b1 .isTuple (.pk 1))) (.not (.chain .le .le (.var 2) (.b1 .len (.pk 1)) (.glo "MOST_PATTERNS")))) (.cons (.ret (.lit (.str "patterns")))
    .nil) .nil)
    (.cons (.for (.var 3) (.ex (.pk 1)) (.cons (.ite (.or (.not (.b1 .isTuple (.pk 3))) (.cmp .ne (.b1 .len (.pk 3)) (.pk 0))) (.cons (.ret (.lit (.str "pattern")))
    .nil) .nil)
    (.cons (.ite (.not (.b1 .all (.comp (.var 4) (.ex (.pk 3)) (.lit (.bool true)) (.or (.cmp .isN (.pk 4) (.lit .none)) (.call "is_integer" (.cons (.pk 4) (.cons (.lit (.int 0)) (.cons (.lit (.int 999)) .nil)))))))) (.cons (.ret (.lit (.str "pattern")))
    .nil) .nil)
    .nil)))
    (.cons (.ret (.lit .none))
    .nil))) }
/-- check_question: 0 columns 1 question 2 reason 3 waiting 4 nodes 5 part -/
def F_check_question : MFun := { params := 2, slots := 6, io := [], body :=
    (.cons (.ite (.or (.not (.b1 .isTuple (.pk 1))) (.cmp .ne (.b1 .len (.pk 1)) (.lit (.int 2)))) (.cons (.raise "BadQuestion" (.cons (.lit (.str "shape")) .nil))
    .nil) .nil)
    (.cons (.asg 2 (.call "wrong_patterns" (.cons (.pk 0) (.cons (.idx (.pk 1) (.lit (.int 0))) (.cons (.lit (.int 1)) .nil)))))
    (.cons (.ite (.cmp .notN (.pk 2) (.lit .none)) (.cons (.raise "BadQuestion" (.cons (.var 2) .nil))
    .nil) .nil)
    (.cons (.asgO 3 (.lst (.cons (.idx (.pk 1) (.lit (.int 1))) .nil)))
    (.cons (.asg 4 (.lit (.int 0)))
    (.cons (.while (.pk 3) (.cons (.asg 5 (.pop 3))
    (.cons (.aug 4 .add (.lit (.int 1)))
    (.cons (.ite (.cmp .gt (.pk 4) (.glo "MOST_NODES")) (.cons (.raise "BadQuestion" (.cons (.lit (.str "nodes")) .nil))
    .nil) .nil)
    (.cons (.ite (.not (.call "is_part" (.cons (.b1 .len (.idx (.pk 1) (.lit (.int 0)))) (.cons (.pk 5) .nil)))) (.cons (.raise "BadQuestion" (.cons (.lit (.str "formula")) .nil))
    .nil) .nil)
    (.cons (.ite (.cmp .ne (.idx (.pk 5) (.lit (.int 0))) (.lit (.str "least"))) (.cons (.expr (.ext 3 (.rev (.slc (.pk 5) (.lit (.int 1)) (.lit .none)))))
    .nil) .nil)
    .nil))))))
    .nil)))))) }
/-- is_part: 0 many 1 part -/
def F_is_part : MFun := { params := 2, slots := 2, io := [], body :=
    (.cons (.ite (.or (.not (.b1 .isTuple (.pk 1))) (.cmp .eq (.b1 .len (.pk 1)) (.lit (.int 0)))) (.cons (.ret (.lit (.bool false)))
    .nil) .nil)
    (.cons (.ite (.cmp .eq (.idx (.pk 1) (.lit (.int 0))) (.lit (.str "least"))) (.cons (.ret (.and (.cmp .eq (.b1 .len (.pk 1)) (.lit (.int 3))) (.and (.call "is_integer" (.cons (.idx (.pk 1) (.lit (.int 1))) (.cons (.lit (.int 0)) (.cons (.bin .sub (.var 0) (.lit (.int 1))) .nil)))) (.call "is_integer" (.cons (.idx (.pk 1) (.lit (.int 2))) (.cons (.lit (.int 1)) (.cons (.glo "CAP") .nil)))))))
    .nil) .nil)
    (.cons (.ite (.cmp .eq (.idx (.pk 1) (.lit (.int 0))) (.lit (.str "not"))) (.cons (.ret (.cmp .eq (.b1 .len (.pk 1)) (.lit (.int 2))))
    .nil) .nil)
    (.cons (.ret (.and (.cmp .isIn (.idx (.pk 1) (.lit (.int 0))) (.tup (.cons (.lit (.str "and")) (.cons (.lit (.str "or")) .nil)))) (.cmp .eq (.b1 .len (.pk 1)) (.lit (.int 3)))))
    .nil)))) }
/-- is_question: 0 columns 1 thing -/
def F_is_question : MFun := { params := 2, slots := 2, io := [], body :=
    (.cons (.try (.cons (.expr (.call "check_question" (.cons (.pk 0) (.cons (.pk 1) .nil))))
    .nil) (.one "BadQuestion" (.cons (.ret (.lit (.bool false))) .nil)))
    (.cons (.ret (.lit (.bool true)))
    .nil)) }
/-- matches: 0 pattern 1 cells 2 place 3 entry -/
def F_matches : MFun := { params := 2, slots := 4, io := [], body :=
    (.cons (.ret (.b1 .all (.comp (.tup [2, 3]) (.enum (.pk 0)) (.lit (.bool true)) (.or (.cmp .isN (.pk 3) (.lit .none)) (.cmp .eq (.pk 3) (.idx (.pk 1) (.var 2)))))))
    .nil) }
/-- profile_of: 0 patterns 1 rows 2 chosen 3 found 4 pattern 5 many 6 row -/
def F_profile_of : MFun := { params := 3, slots := 7, io := [], body :=
    (.cons (.asgO 3 (.lst .nil))
    (.cons (.for (.var 4) (.ex (.pk 0)) (.cons (.asg 5 (.b1 .len (.comp (.var 6) (.ex (.pk 2)) (.call "matches" (.cons (.pk 4) (.cons (.idx (.idx (.pk 1) (.var 6)) (.lit (.int 3))) .nil))) (.var 6))))
    (.cons (.expr (.app 3 (.b2 .min (.var 5) (.glo "CAP"))))
    .nil)))
    (.cons (.ret (.b1 .tuple (.pk 3)))
    .nil))) }
/-- holds: 0 formula 1 profile 2 word -/
def F_holds : MFun := { params := 2, slots := 3, io := [], body :=
    (.cons (.asg 2 (.idx (.pk 0) (.lit (.int 0))))
    (.cons (.ite (.cmp .eq (.pk 2) (.lit (.str "least"))) (.cons (.ret (.cmp .ge (.idx (.pk 1) (.idx (.pk 0) (.lit (.int 1)))) (.idx (.pk 0) (.lit (.int 2)))))
    .nil) .nil)
    (.cons (.ite (.cmp .eq (.pk 2) (.lit (.str "not"))) (.cons (.ret (.not (.call "holds" (.cons (.idx (.pk 0) (.lit (.int 1))) (.cons (.pk 1) .nil)))))
    .nil) .nil)
    (.cons (.ite (.cmp .eq (.pk 2) (.lit (.str "and"))) (.cons (.ret (.and (.call "holds" (.cons (.idx (.pk 0) (.lit (.int 1))) (.cons (.pk 1) .nil))) (.call "holds" (.cons (.idx (.pk 0) (.lit (.int 2))) (.cons (.pk 1) .nil)))))
    .nil) .nil)
    (.cons (.ret (.or (.call "holds" (.cons (.idx (.pk 0) (.lit (.int 1))) (.cons (.pk 1) .nil))) (.call "holds" (.cons (.idx (.pk 0) (.lit (.int 2))) (.cons (.pk 1) .nil)))))
    .nil))))) }
/-- holds_in: 0 question 1 rows 2 chosen -/
def F_holds_in : MFun := { params := 3, slots := 3, io := [], body :=
    (.cons (.ret (.call "holds" (.cons (.idx (.pk 0) (.lit (.int 1))) (.cons (.call "profile_of" (.cons (.idx (.pk 0) (.lit (.int 0))) (.cons (.pk 1) (.cons (.pk 2) .nil)))) .nil))))
    .nil) }
/-- _law_begin: 0 script 1 cell -/
def F__law_begin : MFun := { params := 1, slots := 2, io := [], body :=
    (.cons (.ret (.lst (.cons (.comp (.var 1) (.ex (.pk 0)) (.lit (.bool true)) (.b1 .int (.pk 1))) (.cons (.lit (.int 0)) (.cons (.lit (.int 0)) (.cons (.lit (.int 17)) .nil))))))
    .nil) }
/-- _law_draw: 0 d 1 many 2 size 3 value 4 cell -/
def F__law_draw : MFun := { params := 2, slots := 5, io := [0], body :=
    (.cons (.ite (.cmp .gt (.idx (.pk 0) (.lit (.int 2))) (.lit (.int 0))) (.cons (.asg 3 (.idx (.pk 0) (.lit (.int 2))))
    (.cons (.asgI 0 (.lit (.int 2)) (.bin .fdiv (.var 3) (.var 1)))
    (.cons (.ret (.bin .mod (.b1 .int (.pk 3)) (.var 1)))
    .nil))) .nil)
    (.cons (.asg 2 (.lit (.int 0)))
    (.cons (.ite (.cmp .lt (.idx (.pk 0) (.lit (.int 1))) (.b1 .len (.idx (.pk 0) (.lit (.int 0))))) (.cons (.asg 4 (.idx (.idx (.pk 0) (.lit (.int 0))) (.idx (.pk 0) (.lit (.int 1)))))
    (.cons (.asg 2 (.bin .add (.bin .mul (.lit (.int 2)) (.b1 .abs (.pk 4))) (.b1 .int (.cmp .lt (.pk 4) (.lit (.int 0))))))
    .nil)) .nil)
    (.cons (.augI 0 (.lit (.int 1)) .add (.lit (.int 1)))
    (.cons (.ite (.cmp .ge (.pk 2) (.bin .mul (.lit (.int 2)) (.bin .pow (.lit (.int 10)) (.lit (.int 18))))) (.cons (.asg 3 (.bin .mod (.b1 .int (.bin .fdiv (.var 2) (.lit (.int 2)))) (.bin .shl (.lit (.int 1)) (.lit (.int 6000)))))
    (.cons (.asgI 0 (.lit (.int 2)) (.bin .fdiv (.var 3) (.var 1)))
    (.cons (.ret (.bin .mod (.b1 .int (.pk 3)) (.var 1)))
    .nil))) .nil)
    (.cons (.asgI 0 (.lit (.int 3)) (.bin .mod (.b1 .int (.bin .add (.bin .add (.bin .add (.bin .mul (.idx (.pk 0) (.lit (.int 3))) (.lit (.int 69069))) (.bin .mul (.bin .mod (.b1 .int (.pk 2)) (.lit (.int 2147483629))) (.lit (.int 40692)))) (.bin .mul (.idx (.pk 0) (.lit (.int 1))) (.lit (.int 40014)))) (.lit (.int 29)))) (.lit (.int 2147483647))))
    (.cons (.ret (.bin .mod (.b1 .int (.bin .fdiv (.idx (.pk 0) (.lit (.int 3))) (.lit (.int 32)))) (.var 1)))
    .nil))))))) }
/-- _law_pick: 0 d 1 row -/
def F__law_pick : MFun := { params := 2, slots := 2, io := [0], body :=
    (.cons (.ret (.idx (.pk 1) (.call "_law_draw" (.cons (.io 0) (.cons (.b1 .len (.pk 1)) .nil)))))
    .nil) }
/-- _law_is_int: 0 thing -/
def F__law_is_int : MFun := { params := 1, slots := 1, io := [], body :=
    (.cons (.ret (.and (.b1 .isInt (.pk 0)) (.not (.b1 .isBool (.pk 0)))))
    .nil) }
/-- _law_says: 0 told 1 due -/
def F__law_says : MFun := { params := 2, slots := 2, io := [], body :=
    (.cons (.ret (.and (.b1 .isBool (.pk 0)) (.cmp .eq (.pk 0) (.pk 1))))
    .nil) }
/-- _law_plain: 0 thing 1 waiting 2 k 3 part -/
def F__law_plain : MFun := { params := 1, slots := 4, io := [], body :=
    (.cons (.asgO 1 (.lst (.cons (.var 0) .nil)))
    (.cons (.for (.var 2) (.range (.lit (.int 20000))) (.cons (.ite (.cmp .eq (.pk 1) (.lst .nil)) (.cons (.ret (.lit (.bool true)))
    .nil) .nil)
    (.cons (.asg 3 (.pop 1))
    (.cons (.ite (.b1 .isTuple (.pk 3)) (.cons (.expr (.ext 1 (.var 3)))
    .nil) (.cons (.ite (.not (.or (.cmp .isN (.pk 3) (.lit .none)) (.or (.b1 .isStr (.pk 3)) (.call "_law_is_int" (.cons (.pk 3) .nil))))) (.cons (.ret (.lit (.bool false)))
    .nil) .nil)
    .nil))
    .nil))))
    (.cons (.ret (.cmp .eq (.pk 1) (.lst .nil)))
    .nil))) }
/-- _law_cells: 0 d 1 columns 2 values 3 k -/
def F__law_cells : MFun := { params := 3, slots := 4, io := [0], body :=
    (.cons (.ret (.b1 .tuple (.comp (.var 3) (.range (.var 1)) (.lit (.bool true)) (.call "_law_draw" (.cons (.io 0) (.cons (.pk 2) .nil))))))
    .nil) }
/-- _law_row: 0 d 1 columns 2 values 3 weights -/
def F__law_row : MFun := { params := 4, slots := 4, io := [0], body :=
    (.cons (.ret (.tup (.cons (.call "_law_draw" (.cons (.io 0) (.cons (.lit (.int 3)) .nil))) (.cons (.call "_law_draw" (.cons (.io 0) (.cons (.lit (.int 3)) .nil))) (.cons (.bin .add (.lit (.int 1)) (.call "_law_draw" (.cons (.io 0) (.cons (.pk 3) .nil)))) (.cons (.call "_law_cells" (.cons (.io 0) (.cons (.pk 1) (.cons (.pk 2) .nil)))) .nil))))))
    .nil) }
/-- _law_table: 0 d 1 columns 2 many 3 values 4 weights 5 rows 6 k 7 row 8 cells -/
def F__law_table : MFun := { params := 5, slots := 9, io := [0], body :=
    (.cons (.asgO 5 (.lst .nil))
    (.cons (.for (.var 6) (.range (.var 2)) (.cons (.asg 7 (.call "_law_row" (.cons (.io 0) (.cons (.pk 1) (.cons (.pk 3) (.cons (.pk 4) .nil))))))
    (.cons (.ite (.and (.cmp .ne (.pk 5) (.lst .nil)) (.cmp .eq (.call "_law_draw" (.cons (.io 0) (.cons (.lit (.int 3)) .nil))) (.lit (.int 1)))) (.cons (.asgO 8 (.b1 .list (.idx (.call "_law_pick" (.cons (.io 0) (.cons (.pk 5) .nil))) (.lit (.int 3)))))
    (.cons (.asgI 8 (.call "_law_draw" (.cons (.io 0) (.cons (.pk 1) .nil))) (.call "_law_draw" (.cons (.io 0) (.cons (.pk 3) .nil))))
    (.cons (.asg 7 (.tup (.cons (.idx (.pk 7) (.lit (.int 0))) (.cons (.idx (.pk 7) (.lit (.int 1))) (.cons (.idx (.pk 7) (.lit (.int 2))) (.cons (.b1 .tuple (.pk 8)) .nil))))))
    .nil))) .nil)
    (.cons (.expr (.app 5 (.var 7)))
    .nil))))
    (.cons (.ret (.b1 .tuple (.pk 5)))
    .nil))) }
/-- _law_pattern: 0 d 1 columns 2 k -/
def F__law_pattern : MFun := { params := 2, slots := 3, io := [0], body :=
    (.cons (.ret (.b1 .tuple (.comp (.var 2) (.range (.var 1)) (.lit (.bool true)) (.call "_law_pick" (.cons (.io 0) (.cons (.lst (.cons (.lit .none) (.cons (.lit (.int 0)) (.cons (.lit (.int 1)) (.cons (.lit (.int 2)) (.cons (.lit .none) (.cons (.lit (.int 999)) .nil))))))) .nil))))))
    .nil) }
/-- _law_formula: 0 d 1 many 2 nodes 3 parts 4 k 5 found 6 way -/
def F__law_formula : MFun := { params := 3, slots := 7, io := [0], body :=
    (.cons (.asgO 3 (.lst .nil))
    (.cons (.for (.var 4) (.range (.var 2)) (.cons (.asg 6 (.call "_law_draw" (.cons (.io 0) (.cons (.lit (.int 4)) .nil))))
    (.cons (.ite (.and (.cmp .eq (.pk 6) (.lit (.int 1))) (.cmp .ne (.pk 3) (.lst .nil))) (.cons (.expr (.app 3 (.tup (.cons (.lit (.str "not")) (.cons (.pop 3) .nil)))))
    .nil) (.cons (.ite (.and (.cmp .gt (.pk 6) (.lit (.int 1))) (.cmp .gt (.b1 .len (.pk 3)) (.lit (.int 1)))) (.cons (.expr (.app 3 (.tup (.cons (.ife (.cmp .eq (.pk 6) (.lit (.int 2))) (.lit (.str "and")) (.lit (.str "or"))) (.cons (.pop 3) (.cons (.pop 3) .nil))))))
    .nil) (.cons (.expr (.app 3 (.tup (.cons (.lit (.str "least")) (.cons (.call "_law_draw" (.cons (.io 0) (.cons (.pk 1) .nil))) (.cons (.bin .add (.lit (.int 1)) (.call "_law_draw" (.cons (.io 0) (.cons (.lit (.int 3)) .nil)))) .nil))))))
    .nil))
    .nil))
    .nil)))
    (.cons (.asg 5 (.pop 3))
    (.cons (.for (.var 4) (.range (.b1 .len (.pk 3))) (.cons (.asg 5 (.tup (.cons (.lit (.str "or")) (.cons (.pop 3) (.cons (.var 5) .nil)))))
    .nil))
    (.cons (.ret (.var 5))
    .nil))))) }
/-- _law_nodes: 0 formula 1 found 2 waiting 3 k 4 part -/
def F__law_nodes : MFun := { params := 1, slots := 5, io := [], body :=
    (.cons (.asgO 1 (.lst .nil))
    (.cons (.asgO 2 (.lst (.cons (.var 0) .nil)))
    (.cons (.for (.var 3) (.range (.lit (.int 60))) (.cons (.ite (.cmp .eq (.pk 2) (.lst .nil)) (.cons (.ret (.pk 1))
    .nil) .nil)
    (.cons (.asg 4 (.pop 2))
    (.cons (.expr (.app 1 (.var 4)))
    (.cons (.ite (.and (.b1 .isTuple (.pk 4)) (.and (.cmp .ne (.pk 4) (.tup .nil)) (.cmp .isIn (.idx (.pk 4) (.lit (.int 0))) (.tup (.cons (.lit (.str "not")) (.cons (.lit (.str "and")) (.cons (.lit (.str "or")) .nil))))))) (.cons (.expr (.ext 2 (.rev (.b1 .list (.slc (.pk 4) (.lit (.int 1)) (.lit .none))))))
    .nil) .nil)
    .nil)))))
    (.cons (.ret (.pk 1))
    .nil)))) }
/-- _law_is_node: 0 many 1 part -/
def F__law_is_node : MFun := { params := 2, slots := 2, io := [], body :=
    (.cons (.ite (.or (.not (.b1 .isTuple (.pk 1))) (.cmp .eq (.pk 1) (.tup .nil))) (.cons (.ret (.lit (.bool false)))
    .nil) .nil)
    (.cons (.ite (.cmp .eq (.idx (.pk 1) (.lit (.int 0))) (.lit (.str "least"))) (.cons (.ite (.or (.cmp .ne (.b1 .len (.pk 1)) (.lit (.int 3))) (.or (.not (.call "_law_is_int" (.cons (.idx (.pk 1) (.lit (.int 1))) .nil))) (.not (.call "_law_is_int" (.cons (.idx (.pk 1) (.lit (.int 2))) .nil))))) (.cons (.ret (.lit (.bool false)))
    .nil) .nil)
    (.cons (.ret (.and (.chain .le .lt (.lit (.int 0)) (.idx (.pk 1) (.lit (.int 1))) (.var 0)) (.chain .le .le (.lit (.int 1)) (.idx (.pk 1) (.lit (.int 2))) (.lit (.int 3)))))
    .nil)) .nil)
    (.cons (.ret (.and (.cmp .eq (.b1 .len (.pk 1)) (.ife (.cmp .eq (.idx (.pk 1) (.lit (.int 0))) (.lit (.str "not"))) (.lit (.int 2)) (.lit (.int 3)))) (.cmp .isIn (.idx (.pk 1) (.lit (.int 0))) (.tup (.cons (.lit (.str "not")) (.cons (.lit (.str "and")) (.cons (.lit (.str "or")) .nil)))))))
    .nil))) }
/-- _law_reason: 0 columns 1 question 2 patterns 3 pattern 4 listed 5 k 6 entry -/
def F__law_reason : MFun := { params := 2, slots := 7, io := [], body :=
    (.cons (.ite (.or (.not (.b1 .isTuple (.pk 1))) (.cmp .ne (.b1 .len (.pk 1)) (.lit (.int 2)))) (.cons (.ret (.lit (.str "shape")))
    .nil) .nil)
    (.cons (.asg 2 (.idx (.pk 1) (.lit (.int 0))))
    (.cons (.ite (.or (.not (.b1 .isTuple (.pk 2))) (.not (.chain .le .le (.lit (.int 1)) (.b1 .len (.pk 2)) (.lit (.int 3))))) (.cons (.ret (.lit (.str "patterns")))
    .nil) .nil)
    (.cons (.for (.var 3) (.ex (.pk 2)) (.cons (.ite (.or (.not (.b1 .isTuple (.pk 3))) (.cmp .ne (.b1 .len (.pk 3)) (.pk 0))) (.cons (.ret (.lit (.str "pattern")))
    .nil) .nil)
    (.cons (.ite (.not (.b1 .all (.comp (.var 6) (.ex (.pk 3)) (.lit (.bool true)) (.or (.cmp .isN (.pk 6) (.lit .none)) (.and (.call "_law_is_int" (.cons (.pk 6) .nil)) (.chain .le .le (.lit (.int 0)) (.var 6) (.lit (.int 999)))))))) (.cons (.ret (.lit (.str "pattern")))
    .nil) .nil)
    .nil)))
    (.cons (.asg 4 (.call "_law_nodes" (.cons (.idx (.pk 1) (.lit (.int 1))) .nil)))
    (.cons (.for (.var 5) (.range (.b1 .len (.pk 4))) (.cons (.ite (.cmp .eq (.pk 5) (.lit (.int 12))) (.cons (.ret (.lit (.str "nodes")))
    .nil) .nil)
    (.cons (.ite (.not (.call "_law_is_node" (.cons (.b1 .len (.pk 2)) (.cons (.idx (.pk 4) (.var 5)) .nil)))) (.cons (.ret (.lit (.str "formula")))
    .nil) .nil)
    .nil)))
    (.cons (.ret (.lit .none))
    .nil))))))) }
/-- _law_wrong: 0 d 1 columns 2 question 3 patterns 4 formula 5 leaf 6 bad 7 long 8 k 9 wide -/
def F__law_wrong : MFun := { params := 3, slots := 10, io := [0], body :=
    (.cons (.asgT [3, 4] (.var 2))
    (.cons (.asg 5 (.tup (.cons (.lit (.str "least")) (.cons (.lit (.int 0)) (.cons (.lit (.int 1)) .nil)))))
    (.cons (.asg 6 (.call "_law_pick" (.cons (.io 0) (.cons (.lst (.cons (.tup (.cons (.lit (.str "least")) (.cons (.b1 .len (.pk 3)) (.cons (.lit (.int 1)) .nil)))) (.cons (.tup (.cons (.lit (.str "least")) (.cons (.lit (.int 0)) (.cons (.lit (.int 4)) .nil)))) (.cons (.tup (.cons (.lit (.str "least")) (.cons (.lit (.int 0)) (.cons (.lit (.int 0)) .nil)))) (.cons (.tup (.cons (.lit (.str "least")) (.cons (.lit (.bool true)) (.cons (.lit (.int 1)) .nil)))) (.cons (.tup (.cons (.lit (.str "least")) (.cons (.lit (.int 0)) .nil))) (.cons (.tup .nil) (.cons (.lit .none) (.cons (.tup (.cons (.lit (.str "nor")) (.cons (.var 5) (.cons (.var 5) .nil)))) (.cons (.tup (.cons (.lit (.str "not")) (.cons (.var 5) (.cons (.var 5) .nil)))) (.cons (.tup (.cons (.lit (.str "and")) (.cons (.var 5) .nil))) (.cons (.lst (.cons (.lit (.str "least")) (.cons (.lit (.int 0)) (.cons (.lit (.int 1)) .nil)))) (.cons (.tup (.cons (.lit (.str "not")) .nil)) (.cons (.lit (.str "least")) (.cons (.tup (.cons (.lit (.str "least")) (.cons (.lit (.int 0)) (.cons (.lit .none) .nil)))) .nil))))))))))))))) .nil))))
    (.cons (.asg 7 (.var 5))
    (.cons (.for (.var 8) (.range (.call "_law_pick" (.cons (.io 0) (.cons (.lst (.cons (.lit (.int 11)) (.cons (.lit (.int 12)) (.cons (.lit (.int 13)) .nil)))) .nil)))) (.cons (.asg 7 (.tup (.cons (.lit (.str "not")) (.cons (.var 7) .nil))))
    .nil))
    (.cons (.asg 9 (.bin .add (.idx (.pk 3) (.lit (.int 0))) (.tup (.cons (.lit .none) .nil))))
    (.cons (.ret (.call "_law_pick" (.cons (.io 0) (.cons (.lst (.cons (.tup (.cons (.var 3) .nil)) (.cons (.lit .none) (.cons (.tup (.cons (.tup .nil) (.cons (.var 4) .nil))) (.cons (.tup (.cons (.bin .add (.bin .add (.bin .add (.var 3) (.var 3)) (.var 3)) (.var 3)) (.cons (.var 4) .nil))) (.cons (.tup (.cons (.b1 .list (.pk 3)) (.cons (.var 4) .nil))) (.cons (.tup (.cons (.bin .add (.slc (.pk 3) (.lit .none) (.neg (.lit (.int 1)))) (.tup (.cons (.var 9) .nil))) (.cons (.var 4) .nil))) (.cons (.tup (.cons (.bin .add (.slc (.pk 3) (.lit .none) (.neg (.lit (.int 1)))) (.tup (.cons (.bin .mul (.tup (.cons (.lit (.int 1000)) .nil)) (.var 1)) .nil))) (.cons (.var 4) .nil))) (.cons (.tup (.cons (.bin .add (.slc (.pk 3) (.lit .none) (.neg (.lit (.int 1)))) (.tup (.cons (.bin .mul (.tup (.cons (.lit (.bool true)) .nil)) (.var 1)) .nil))) (.cons (.var 4) .nil))) (.cons (.tup (.cons (.bin .add (.slc (.pk 3) (.lit .none) (.neg (.lit (.int 1)))) (.tup (.cons (.lit .none) .nil))) (.cons (.var 4) .nil))) (.cons (.tup (.cons (.var 3) (.cons (.var 6) .nil))) (.cons (.tup (.cons (.var 3) (.cons (.tup (.cons (.lit (.str "and")) (.cons (.var 4) (.cons (.var 6) .nil)))) .nil))) (.cons (.tup (.cons (.var 3) (.cons (.tup (.cons (.lit (.str "or")) (.cons (.var 6) (.cons (.var 4) .nil)))) .nil))) (.cons (.tup (.cons (.var 3) (.cons (.var 7) .nil))) (.cons (.tup (.cons (.var 3) (.cons (.tup (.cons (.lit (.str "and")) (.cons (.var 7) (.cons (.var 6) .nil)))) .nil))) (.cons (.tup (.cons (.tup (.cons (.b1 .list (.idx (.pk 3) (.lit (.int 0)))) .nil)) (.cons (.var 4) .nil))) (.cons (.tup (.cons (.var 3) (.cons (.var 4) (.cons (.lit (.int 0)) .nil)))) .nil))))))))))))))))) .nil))))
    .nil))))))) }
/-- _law_refused: 0 columns 1 question 2 due 3 told 4 problem -/
def F__law_refused : MFun := { params := 3, slots := 5, io := [], body :=
    (.cons (.try (.cons (.asg 3 (.call "check_question" (.cons (.pk 0) (.cons (.pk 1) .nil))))
    .nil) (.named "TruceError" 4 (.cons (.ite (.or (.isC "BadTable") (.not (.isC "BadQuestion"))) (.cons (.ret (.lit (.bool false))) .nil) .nil) (.cons (.ret (.and (.cmp .notN (.var 2) (.lit .none)) (.cmp .eq (.fld "reason") (.var 2)))) .nil))))
    (.cons (.ret (.and (.cmp .isN (.pk 2) (.lit .none)) (.cmp .isN (.pk 3) (.lit .none))))
    .nil)) }
/-- _law_matches: 0 pattern 1 cells 2 k -/
def F__law_matches : MFun := { params := 2, slots := 3, io := [], body :=
    (.cons (.ret (.cmp .eq (.comp (.var 2) (.range (.b1 .len (.pk 1))) (.and (.cmp .notN (.idx (.pk 0) (.var 2)) (.lit .none)) (.cmp .ne (.idx (.pk 0) (.var 2)) (.idx (.pk 1) (.var 2)))) (.var 2)) (.lst .nil)))
    .nil) }
/-- _law_holds: 0 formula 1 counts 2 values 3 part 4 first 5 second -/
def F__law_holds : MFun := { params := 2, slots := 6, io := [], body :=
    (.cons (.asgO 2 (.lst .nil))
    (.cons (.for (.var 3) (.ex (.rev (.call "_law_nodes" (.cons (.pk 0) .nil)))) (.cons (.ite (.cmp .eq (.idx (.pk 3) (.lit (.int 0))) (.lit (.str "least"))) (.cons (.expr (.app 2 (.cmp .ge (.idx (.pk 1) (.idx (.pk 3) (.lit (.int 1)))) (.idx (.pk 3) (.lit (.int 2))))))
    .nil) (.cons (.ite (.cmp .eq (.idx (.pk 3) (.lit (.int 0))) (.lit (.str "not"))) (.cons (.expr (.app 2 (.not (.pop 2))))
    .nil) (.cons (.asgT [4, 5] (.tup (.cons (.pop 2) (.cons (.pop 2) .nil))))
    (.cons (.expr (.app 2 (.ife (.cmp .eq (.idx (.pk 3) (.lit (.int 0))) (.lit (.str "and"))) (.and (.var 4) (.var 5)) (.or (.var 4) (.var 5)))))
    .nil)))
    .nil))
    .nil))
    (.cons (.ret (.idx (.pk 2) (.lit (.int 0))))
    .nil))) }
/-- law: 0 script 1 d 2 columns 3 patterns 4 question 5 k 6 rows 7 thing 8 due 9 chosen 10 counts 11 pattern 12 listed 13 row -/
def F_law : MFun := { params := 1, slots := 14, io := [], body :=
    (.cons (.asgO 1 (.call "_law_begin" (.cons (.pk 0) .nil)))
    (.cons (.asg 2 (.bin .add (.lit (.int 1)) (.call "_law_draw" (.cons (.io 1) (.cons (.lit (.int 4)) .nil)))))
    (.cons (.asg 3 (.b1 .tuple (.comp (.var 5) (.range (.bin .add (.lit (.int 1)) (.call "_law_draw" (.cons (.io 1) (.cons (.lit (.int 3)) .nil))))) (.lit (.bool true)) (.call "_law_pattern" (.cons (.io 1) (.cons (.pk 2) .nil))))))
    (.cons (.asg 4 (.tup (.cons (.var 3) (.cons (.call "_law_formula" (.cons (.io 1) (.cons (.b1 .len (.pk 3)) (.cons (.bin .add (.lit (.int 1)) (.call "_law_draw" (.cons (.io 1) (.cons (.lit (.int 6)) .nil)))) .nil)))) .nil))))
    (.cons (.for (.var 5) (.range (.lit (.int 4))) (.cons (.asg 7 (.ife (.cmp .eq (.pk 5) (.lit (.int 0))) (.var 4) (.call "_law_wrong" (.cons (.io 1) (.cons (.pk 2) (.cons (.pk 4) .nil))))))
    (.cons (.asg 8 (.call "_law_reason" (.cons (.pk 2) (.cons (.pk 7) .nil))))
    (.cons (.ite (.or (.not (.call "_law_refused" (.cons (.pk 2) (.cons (.pk 7) (.cons (.pk 8) .nil))))) (.not (.call "_law_says" (.cons (.call "is_question" (.cons (.pk 2) (.cons (.pk 7) .nil))) (.cons (.cmp .isN (.pk 8) (.lit .none)) .nil))))) (.cons (.ret (.lit (.bool false)))
    .nil) .nil)
    .nil))))
    (.cons (.asg 6 (.call "_law_table" (.cons (.io 1) (.cons (.pk 2) (.cons (.call "_law_draw" (.cons (.io 1) (.cons (.lit (.int 9)) .nil))) (.cons (.lit (.int 3)) (.cons (.lit (.int 9)) .nil)))))))
    (.cons (.for (.var 5) (.range (.lit (.int 3))) (.cons (.asg 9 (.b1 .tuple (.comp (.var 13) (.range (.b1 .len (.pk 6))) (.cmp .gt (.call "_law_draw" (.cons (.io 1) (.cons (.lit (.int 3)) .nil))) (.lit (.int 0))) (.var 13))))
    (.cons (.asgO 10 (.lst .nil))
    (.cons (.for (.var 11) (.ex (.pk 3)) (.cons (.asg 12 (.comp (.var 13) (.ex (.pk 9)) (.call "_law_matches" (.cons (.pk 11) (.cons (.idx (.idx (.pk 6) (.var 13)) (.lit (.int 3))) .nil))) (.var 13)))
    (.cons (.ite (.not (.b1 .all (.comp (.var 13) (.ex (.pk 9)) (.lit (.bool true)) (.call "_law_says" (.cons (.call "matches" (.cons (.pk 11) (.cons (.idx (.idx (.pk 6) (.var 13)) (.lit (.int 3))) .nil))) (.cons (.cmp .isIn (.pk 13) (.pk 12)) .nil)))))) (.cons (.ret (.lit (.bool false)))
    .nil) .nil)
    (.cons (.expr (.app 10 (.b2 .min (.lit (.int 3)) (.b1 .len (.pk 12)))))
    .nil))))
    (.cons (.ite (.or (.cmp .ne (.call "profile_of" (.cons (.pk 3) (.cons (.pk 6) (.cons (.pk 9) .nil)))) (.b1 .tuple (.pk 10))) (.not (.call "_law_plain" (.cons (.call "profile_of" (.cons (.pk 3) (.cons (.pk 6) (.cons (.pk 9) .nil)))) .nil)))) (.cons (.ret (.lit (.bool false)))
    .nil) .nil)
    (.cons (.asg 8 (.call "_law_holds" (.cons (.idx (.pk 4) (.lit (.int 1))) (.cons (.pk 10) .nil))))
    (.cons (.ite (.or (.not (.call "_law_says" (.cons (.call "holds" (.cons (.idx (.pk 4) (.lit (.int 1))) (.cons (.b1 .tuple (.pk 10)) .nil))) (.cons (.pk 8) .nil)))) (.not (.call "_law_says" (.cons (.call "holds_in" (.cons (.pk 4) (.cons (.pk 6) (.cons (.pk 9) .nil)))) (.cons (.pk 8) .nil))))) (.cons (.ret (.lit (.bool false)))
    .nil) .nil)
    .nil)))))))
    (.cons (.ret (.lit (.bool true)))
    .nil)))))))) }
def rows : List DefRow := [⟨"is_integer", 5, ["thing", "low", "high"], F_is_integer⟩,
  ⟨"wrong_patterns", 10, ["columns", "patterns", "low", "pattern", "entry"], F_wrong_patterns⟩,
  ⟨"check_question", 11, ["columns", "question", "reason", "waiting", "nodes", "part"], F_check_question⟩,
  ⟨"is_part", 12, ["many", "part"], F_is_part⟩,
  ⟨"is_question", 13, ["columns", "thing"], F_is_question⟩,
  ⟨"matches", 14, ["pattern", "cells", "place", "entry"], F_matches⟩,
  ⟨"profile_of", 15, ["patterns", "rows", "chosen", "found", "pattern", "many", "row"], F_profile_of⟩,
  ⟨"holds", 16, ["formula", "profile", "word"], F_holds⟩,
  ⟨"holds_in", 17, ["question", "rows", "chosen"], F_holds_in⟩,
  ⟨"_law_begin", 19, ["script", "cell"], F__law_begin⟩,
  ⟨"_law_draw", 20, ["d", "many", "size", "value", "cell"], F__law_draw⟩,
  ⟨"_law_pick", 21, ["d", "row"], F__law_pick⟩,
  ⟨"_law_is_int", 22, ["thing"], F__law_is_int⟩,
  ⟨"_law_says", 23, ["told", "due"], F__law_says⟩,
  ⟨"_law_plain", 24, ["thing", "waiting", "k", "part"], F__law_plain⟩,
  ⟨"_law_cells", 25, ["d", "columns", "values", "k"], F__law_cells⟩,
  ⟨"_law_row", 26, ["d", "columns", "values", "weights"], F__law_row⟩,
  ⟨"_law_table", 27, ["d", "columns", "many", "values", "weights", "rows", "k", "row", "cells"], F__law_table⟩,
  ⟨"_law_pattern", 28, ["d", "columns", "k"], F__law_pattern⟩,
  ⟨"_law_formula", 29, ["d", "many", "nodes", "parts", "k", "found", "way"], F__law_formula⟩,
  ⟨"_law_nodes", 30, ["formula", "found", "waiting", "k", "part"], F__law_nodes⟩,
  ⟨"_law_is_node", 31, ["many", "part"], F__law_is_node⟩,
  ⟨"_law_reason", 32, ["columns", "question", "patterns", "pattern", "listed", "k", "entry"], F__law_reason⟩,
  ⟨"_law_wrong", 33, ["d", "columns", "question", "patterns", "formula", "leaf", "bad", "long", "k", "wide"], F__law_wrong⟩,
  ⟨"_law_refused", 34, ["columns", "question", "due", "told", "problem"], F__law_refused⟩,
  ⟨"_law_matches", 35, ["pattern", "cells", "k"], F__law_matches⟩,
  ⟨"_law_holds", 36, ["formula", "counts", "values", "part", "first", "second"], F__law_holds⟩,
  ⟨"law", 37, ["script", "d", "columns", "patterns", "question", "k", "rows", "thing", "due", "chosen", "counts", "pattern", "listed", "row"], F_law⟩]
def cons : List (String × D) := [("MOST_PATTERNS", .int 3), ("MOST_NODES", .int 12), ("CAP", .int 3)]
def cls : List ClRow := [⟨"TruceError", 1, ⟨.base, [], ["TruceError"]⟩⟩, ⟨"BadTable", 2, ⟨.two, ["row", "reason"], ["BadTable", "TruceError"]⟩⟩, ⟨"BadQuestion", 3, ⟨.one, ["reason"], ["BadQuestion", "TruceError"]⟩⟩]
def src : Src := ⟨rows, cons, cls⟩
theorem defs_ok : src.rows.all (okDef top) = true := by decide +kernel
abbrev L : Table := src.L
theorem L_is_integer : L.fn "is_integer" = some F_is_integer := by rfl
theorem L_wrong_patterns : L.fn "wrong_patterns" = some F_wrong_patterns := by rfl
theorem L_check_question : L.fn "check_question" = some F_check_question := by rfl
theorem L_is_part : L.fn "is_part" = some F_is_part := by rfl
theorem L_is_question : L.fn "is_question" = some F_is_question := by rfl
theorem L_matches : L.fn "matches" = some F_matches := by rfl
theorem L_profile_of : L.fn "profile_of" = some F_profile_of := by rfl
theorem L_holds : L.fn "holds" = some F_holds := by rfl
theorem L_holds_in : L.fn "holds_in" = some F_holds_in := by rfl
theorem L__law_begin : L.fn "_law_begin" = some F__law_begin := by rfl
theorem L__law_draw : L.fn "_law_draw" = some F__law_draw := by rfl
theorem L__law_pick : L.fn "_law_pick" = some F__law_pick := by rfl
theorem L__law_is_int : L.fn "_law_is_int" = some F__law_is_int := by rfl
theorem L__law_says : L.fn "_law_says" = some F__law_says := by rfl
theorem L__law_plain : L.fn "_law_plain" = some F__law_plain := by rfl
theorem L__law_cells : L.fn "_law_cells" = some F__law_cells := by rfl
theorem L__law_row : L.fn "_law_row" = some F__law_row := by rfl
theorem L__law_table : L.fn "_law_table" = some F__law_table := by rfl
theorem L__law_pattern : L.fn "_law_pattern" = some F__law_pattern := by rfl
theorem L__law_formula : L.fn "_law_formula" = some F__law_formula := by rfl
theorem L__law_nodes : L.fn "_law_nodes" = some F__law_nodes := by rfl
theorem L__law_is_node : L.fn "_law_is_node" = some F__law_is_node := by rfl
theorem L__law_reason : L.fn "_law_reason" = some F__law_reason := by rfl
theorem L__law_wrong : L.fn "_law_wrong" = some F__law_wrong := by rfl
theorem L__law_refused : L.fn "_law_refused" = some F__law_refused := by rfl
theorem L__law_matches : L.fn "_law_matches" = some F__law_matches := by rfl
theorem L__law_holds : L.fn "_law_holds" = some F__law_holds := by rfl
theorem L_law : L.fn "law" = some F_law := by rfl
end LW
end

section
set_option autoImplicit false
set_option linter.all false
set_option maxRecDepth 100000
set_option maxHeartbeats 4000000
namespace LW
open PySem MP


/-- the drawing's state -/
def Dr (s : Slot) : Prop := ∃ (xs : List Int) (i b c : Int), s = .ol [.list (xs.map .int), .int i, .int b, .int c] ∧ 0 ≤ i
theorem atI_map {xs : List Int} {i : Int} (h0 : 0 ≤ i) (h1 : i < xs.length) : ∃ z : Int, atI (xs.map PyData.int) i = some (.int z) := by
  obtain ⟨k, rfl⟩ := Int.eq_ofNat_of_zero_le h0
  have hk : k < xs.length := by omega
  refine ⟨xs[k], ?_⟩
  rw [atI_lit _ _ (by simpa using hk), List.getElem?_map, List.getElem?_eq_getElem hk]
  rfl
theorem wp_draw {n : Nat} (hn : 1 ≤ n) {s : Slot} {m : Int} (hs : Dr s) (h1 : 0 < m) (h2 : m < 1073741824) {Q : R → List Slot → Prop} {X : Exn → List Slot → Prop} (hq : ∀ s' r, Dr s' → 0 ≤ r → r < m → Q (.st (.int r)) [s', .u]) :
    CWp (callOut (callN L n) "_law_draw" [s, .v (.int m)]) Q X := by
  obtain ⟨n, rfl⟩ : ∃ k, n = k + 1 := ⟨n - 1, by omega⟩
  obtain ⟨xs, i, b, c, rfl, hi⟩ := hs
  rw [callOut_some L__law_draw]
  refine wp_fun rfl rfl ?_
  unfold F__law_draw
  have M1 : ∀ z : Int, bin .mul (.int 2) (.int z) = some (.st (.int (2 * z))) := fun z => bin_mulI _ _ (by rw [mulOk_iff]; left; decide)
  have M2 : ∀ z : Int, bin .mul (.int z) (.int 69069) = some (.st (.int (z * 69069))) := fun z => bin_mulI _ _ (by rw [mulOk_iff]; right; decide)
  have M3 : ∀ z : Int, bin .mul (.int z) (.int 40692) = some (.st (.int (z * 40692))) := fun z => bin_mulI _ _ (by rw [mulOk_iff]; right; decide)
  have M4 : ∀ z : Int, bin .mul (.int z) (.int 40014) = some (.st (.int (z * 40014))) := fun z => bin_mulI _ _ (by rw [mulOk_iff]; right; decide)
  have M5 : bin .pow (.int 10) (.int 18) = some (.st (.int (10 ^ 18))) := bin_powI _ _ (by decide)
  have M6 : bin .shl (.int 1) (.int 6000) = some (.st (.int (1 * 2 ^ (6000 : Int).toNat))) := bin_shlI _ _ (by decide)
  generalize hbig : (1 * 2 ^ (6000 : Int).toNat : Int) = big at M6
  have hb0 : 0 < big := by rw [← hbig]; exact Int.mul_pos (by decide) (Int.pow_pos (by decide))
  simp
  by_cases hb : 0 < b
  · simp [hb, ixN, bin_fdivI, h1, h2, bin_modI, outsN]
    exact hq _ _ ⟨xs, i, _, c, rfl, hi⟩ (Int.emod_nonneg _ (by omega)) (Int.emod_lt_of_pos _ h1)
  · simp [hb]
    by_cases hlt : i < xs.length
    · obtain ⟨z, hz⟩ := atI_map hi hlt
      simp [hlt, hz, M1, M5, ixN]
      generalize hd : decide ((_ : Int) ≤ _) = k
      cases k
      · simp [M2, M3, M4, bin_modI, bin_fdivI, h1, h2, ixN, outsN]
        exact hq _ _ ⟨xs, i + 1, b, _, rfl, by omega⟩ (Int.emod_nonneg _ (by omega)) (Int.emod_lt_of_pos _ h1)
      · simp [M6, bin_modI, bin_fdivI, h1, h2, hb0, ixN, outsN]
        exact hq _ _ ⟨xs, i + 1, _, c, rfl, by omega⟩ (Int.emod_nonneg _ (by omega)) (Int.emod_lt_of_pos _ h1)
    · simp [hlt, M1, M5, M2, M3, M4, bin_modI, bin_fdivI, h1, h2, ixN, outsN]
      exact hq _ _ ⟨xs, i + 1, b, _, rfl, by omega⟩ (Int.emod_nonneg _ (by omega)) (Int.emod_lt_of_pos _ h1)
end LW
end

section
set_option autoImplicit false
set_option linter.all false
set_option maxRecDepth 100000
set_option maxHeartbeats 4000000
namespace LW
open PySem MP
section
variable {n : Nat} {Q : R → List MP.Slot → Prop} {X : Exn → List MP.Slot → Prop}
theorem wp_is_integer (hn : 1 ≤ n) (d : D) (lo hi : Int) (hq : Q (.st (.bool (isIntIn d lo hi))) [.u, .u, .u]) : CWp (callOut (callN L n) "is_integer" [.v d, .v (.int lo), .v (.int hi)]) Q X := by
  refine wp_def L_is_integer hn rfl rfl fun m _ => ?_
  unfold F_is_integer
  cases d with
  | int i =>
    simp
    cases h : decide (lo ≤ i) <;> simp_all [isIntIn]
  | _ => simpa [isIntIn] using hq
theorem wp_law_is_int (hn : 1 ≤ n) (d : D) (hq : Q (.st (.bool (isIntD d))) [.u]) : CWp (callOut (callN L n) "_law_is_int" [.v d]) Q X := by
  refine wp_def L__law_is_int hn rfl rfl fun m _ => ?_
  unfold F__law_is_int
  cases d <;> simpa [isIntD] using hq
/-- a node of a formula for so many patterns -/
def isNodeL (many : Int) (p : D) : Bool := match p with
  | .tuple (h :: t) => if eqS h "least" = true then (match t with
    | [a, b] => isIntIn a 0 (many - 1) && isIntIn b 1 3
    | _ => false) else if eqS h "not" = true then decide (t.length = 1) else (eqS h "and" || eqS h "or") && decide (t.length = 2)
  | _ => false
theorem con_CAP : L.con "CAP" = some (.int 3) := rfl
@[simp] theorem succ_ne0 (n : Nat) : decide ((n : Int) + 1 = 0) = false := decide_eq_false (by omega)
@[simp] theorem long_ne2 (n : Nat) : decide ((n : Int) + 1 + 1 + 1 + 1 = 2) = false := decide_eq_false (by omega)
@[simp] theorem long_ne3 (n : Nat) : decide ((n : Int) + 1 + 1 + 1 + 1 = 3) = false := decide_eq_false (by omega)
theorem wp_is_part (hn : 2 ≤ n) (many : Int) (p : D) (hq : Q (.st (.bool (isNodeL many p))) [.u, .u]) : CWp (callOut (callN L n) "is_part" [.v (.int many), .v p]) Q X := by
  refine wp_def L_is_part (by omega) rfl rfl fun m hm => ?_
  have hs : ((callN L m).fn "is_integer").isSome = true := fn_isSome' L_is_integer (by omega)
  unfold F_is_part
  cases p with
  | tuple xs =>
    cases xs with
    | nil => simpa [isNodeL] using hq
    | cons h t =>
      unfold isNodeL at hq
      simp
      cases h1 : eqS h "least" with
      | true =>
        simp [h1] at hq ⊢
        rcases t with _ | ⟨a, _ | ⟨b, _ | ⟨c, r⟩⟩⟩
        · simpa using hq
        · simpa using hq
        · simp [Wp_bind]
          refine wp_callA hs ?_
          simp
          refine wp_is_integer (by omega) _ _ _ ?_
          simp
          cases h2 : isIntIn a 0 (many - 1) with
          | false => simpa [h2] using hq
          | true =>
            simp [Wp_bind]
            refine wp_callA hs ?_
            simp [con_CAP]
            refine wp_is_integer (by omega) _ _ _ ?_
            simpa [h2] using hq
        · simpa using hq
      | false =>
        simp [h1] at hq ⊢
        cases h2 : eqS h "not" with
        | true =>
          simp [h2] at hq ⊢
          rcases t with _ | ⟨a, _ | ⟨b, _ | ⟨c, r⟩⟩⟩ <;> simpa using hq
        | false =>
          simp [h2] at hq ⊢
          cases h3 : (eqS h "and" || eqS h "or") with
          | false => simpa [h3] using hq
          | true =>
            simp [h3] at hq ⊢
            rcases t with _ | ⟨a, _ | ⟨b, _ | ⟨c, r⟩⟩⟩ <;> simpa using hq
  | _ => simpa [isNodeL] using hq
end
end LW
end

section
set_option autoImplicit false
set_option linter.all false
set_option maxRecDepth 100000
set_option maxHeartbeats 4000000
namespace LW
open PySem (Str PyData)
open MP
section
variable {n : Nat} {Q : R → List Slot → Prop} {X : Exn → List Slot → Prop}
theorem wp_law_is_node (hn : 2 ≤ n) (many : Int) (p : D) (hq : Q (.st (.bool (isNodeL many p))) [.u, .u]) : CWp (callOut (callN L n) "_law_is_node" [.v (.int many), .v p]) Q X := by
  refine wp_def L__law_is_node (by omega) rfl rfl fun m hm => ?_
  have hs : ((callN L m).fn "_law_is_int").isSome = true := fn_isSome' L__law_is_int (by omega)
  unfold F__law_is_node
  cases p with
  | tuple xs =>
    cases xs with
    | nil => simpa [isNodeL] using hq
    | cons h t =>
      unfold isNodeL at hq
      simp
      cases h1 : eqS h "least" with
      | true =>
        simp [h1] at hq ⊢
        rcases t with _ | ⟨a, _ | ⟨b, _ | ⟨c, r⟩⟩⟩
        · simpa using hq
        · simpa using hq
        · simp [Wp_bind]
          refine wp_callA hs ?_
          simp
          refine wp_law_is_int (by omega) _ ?_
          cases a with
          | int i =>
            simp [isIntD, Wp_bind]
            refine wp_callA hs ?_
            simp
            refine wp_law_is_int (by omega) _ ?_
            cases b with
            | int j =>
              simp [isIntD, isIntIn] at hq ⊢
              cases h2 : decide (0 ≤ i) with
              | false => simpa [h2] using hq
              | true =>
                have e : decide (i < many) = decide (i ≤ many - 1) := by rw [decide_eq_decide]; omega
                simp [h2, e] at hq ⊢
                cases h3 : decide (i ≤ many - 1) with
                | false => simpa [h3] using hq
                | true =>
                  simp [h3] at hq ⊢
                  cases h4 : decide (1 ≤ j) with
                  | false => simpa [h4] using hq
                  | true => simpa [h4] using hq
            | _ => simpa [isIntD, isIntIn] using hq
          | _ => simpa [isIntD, isIntIn] using hq
        · simpa using hq
      | false =>
        simp [h1] at hq ⊢
        cases h2 : eqS h "not" with
        | true =>
          simp [h2] at hq ⊢
          rcases t with _ | ⟨a, _ | ⟨b, _ | ⟨c, r⟩⟩⟩ <;> simpa [h2] using hq
        | false =>
          simp [h2] at hq ⊢
          rcases t with _ | ⟨a, _ | ⟨b, _ | ⟨c, r⟩⟩⟩ <;> simpa [h2] using hq
  | _ => simpa [isNodeL] using hq
/-- an entry of a pattern -/
def entOk (e : D) : Bool := isNone e || isIntIn e 0 999
def patOk (cols : Int) (p : D) : Bool := match p with
  | .tuple es => decide ((es.length : Int) = cols) && es.all entOk
  | _ => false
def patsR (cols low : Int) (ps : D) : Option Str := match ps with
  | .tuple l => if low ≤ l.length ∧ (l.length : Int) ≤ 3 then (if l.all (patOk cols) = true then none else some "pattern") else some "patterns"
  | _ => some "patterns"
def optS : Option Str → D
  | none => .none
  | some s => .str s
theorem con_MP : L.con "MOST_PATTERNS" = some (.int 3) := rfl
theorem wp_wrong_patterns (hn : 2 ≤ n) (cols low : Int) (hc : cols ≤ 1000) (ps : D) (hq : Q (.st (optS (patsR cols low ps))) [.u, .u, .u]) : CWp (callOut (callN L n) "wrong_patterns" [.v (.int cols), .v ps, .v (.int low)]) Q X := by
  refine wp_def L_wrong_patterns (by omega) rfl rfl fun m hm => ?_
  have hs : ((callN L m).fn "is_integer").isSome = true := fn_isSome' L_is_integer (by omega)
  unfold F_wrong_patterns
  cases ps with
  | tuple l =>
    rw [show patsR cols low (.tuple l) = if low ≤ (l.length : Int) ∧ (l.length : Int) ≤ 3 then (if l.all (patOk cols) = true then none else some (Str.ofString "pattern")) else some (Str.ofString "patterns") from rfl] at hq
    simp
    cases h1 : decide (low ≤ l.length) with
    | false =>
      simp at h1
      rw [if_neg (by omega)] at hq
      simpa [optS] using hq
    | true =>
      simp [con_MP]
      cases h2 : decide ((l.length : Int) ≤ 3) with
      | false =>
        simp at h1 h2
        rw [if_neg (by omega)] at hq
        simpa [optS] using hq
      | true =>
        simp at h1 h2
        rw [if_pos ⟨h1, h2⟩] at hq
        simp [Wp_bind]
        obtain ⟨I, hI⟩ := opq fun (k : Nat) (e : Env) => ∃ s3 s4, e = [.v (.int cols), .v (.tuple l), .v (.int low), s3, s4] ∧ (l.take k).all (patOk cols) = true
        refine wp_for I (by rw [hI]; exact ⟨_, _, rfl, rfl⟩) ?_ ?_
        · intro k x e hx hi
          rw [hI] at hi
          obtain ⟨s3, s4, rfl, hk⟩ := hi
          refine ⟨_, rfl, ?_⟩
          have bad : patOk cols x = false → l.all (patOk cols) = false := fun h => by
            rw [List.all_eq_false]
            exact ⟨x, List.mem_of_getElem? hx, by simp [h]⟩
          cases x with
          | tuple es =>
            simp
            cases h3 : decide ((es.length : Int) = cols) with
            | false =>
              rw [bad (by simp [patOk, h3])] at hq
              simpa [optS] using hq
            | true =>
              simp [Wp_bind]
              refine wp_ecomp rfl ?_
              simp
              obtain ⟨J, hJ⟩ := opq fun (j : Nat) (acc : List D) (e : Env) => ∃ s4, e = [.v (.int cols), .v (.tuple l), .v (.int low), .v (.tuple es), s4] ∧ acc = (es.map fun e => .bool (entOk e)).take j
              refine wp_comp J (by rw [hJ]; exact ⟨_, rfl, rfl⟩) ?_ ?_ ?_
              · have h5 : (es.length : Int) = cols := of_decide_eq_true h3
                rw [line_val]; omega
              · intro j y acc e hy hi
                rw [hJ] at hi
                obtain ⟨s4, rfl, rfl⟩ := hi
                simp
                cases h4 : isNone y with
                | true =>
                  simp
                  rw [hJ]
                  refine ⟨_, rfl, ?_⟩
                  rw [← map_take_succ es _ j y hy]
                  simp [entOk, h4]
                | false =>
                  simp [Wp_bind]
                  refine wp_callA hs ?_
                  simp
                  refine wp_is_integer (by omega) _ _ _ ?_
                  simp
                  rw [hJ]
                  refine ⟨_, rfl, ?_⟩
                  rw [← map_take_succ es _ j y hy]
                  simp [entOk, h4]
              · intro acc e hi
                rw [hJ] at hi
                obtain ⟨s4', rfl, rfl⟩ := hi
                rw [map_take_all]
                simp [b1_all_map]
                cases h4 : es.all entOk with
                | true =>
                  simp
                  rw [hI]
                  exact ⟨_, _, rfl, take_all_succ l _ k _ hx hk (by simp [patOk, h3, h4])⟩
                | false =>
                  rw [bad (by simp [patOk, h4])] at hq
                  simpa [optS] using hq
          | _ =>
            rw [bad rfl] at hq
            simpa [optS] using hq
        · intro e hi
          rw [hI] at hi
          obtain ⟨s3, s4, rfl, hk⟩ := hi
          rw [List.take_length] at hk
          simp [hk, optS] at hq ⊢
          exact hq
  | _ => simpa [patsR, optS] using hq
end
end LW
end

section
set_option autoImplicit false
set_option linter.all false
set_option maxRecDepth 100000
set_option maxHeartbeats 4000000
namespace LW
open PySem (Str PyData)
open MP
inductive Sm : D → Prop
  | none : Sm .none
  | bool (b : Bool) : Sm (.bool b)
  | int (i : Int) : Sm (.int i)
  | str (s : Str) : Sm (.str s)
  | tup {xs : List D} : xs.length ≤ 100 → (∀ x ∈ xs, Sm x) → Sm (.tuple xs)
  | lst {xs : List D} : xs.length ≤ 100 → (∀ x ∈ xs, Sm x) → Sm (.list xs)
/-- the nodes below a node -/
def kids (p : D) : List D := match p with
  | .tuple (h :: t) => if (eqS h "not" || (eqS h "and" || eqS h "or")) = true then t else []
  | _ => []
theorem kids_sm {p : D} (h : Sm p) : (∀ x ∈ kids p, Sm x) ∧ (kids p).length ≤ 100 := by
  unfold kids
  split
  · rename_i h0 t
    split
    · cases h with
      | tup hl ha =>
        rw [List.length_cons] at hl
        exact ⟨fun x hx => ha x (List.mem_cons_of_mem _ hx), by omega⟩
    · exact ⟨fun _ z => (nomatch z), Nat.zero_le _⟩
  · exact ⟨fun _ z => (nomatch z), Nat.zero_le _⟩
def trav : Nat → List D → List D
  | 0, _ => []
  | _ + 1, [] => []
  | n + 1, p :: r => p :: trav n (kids p ++ r)
@[simp] theorem trav_nil (n : Nat) : trav n [] = [] := by cases n <;> rfl
theorem trav_len : ∀ (n : Nat) (st : List D), (trav n st).length ≤ n
  | 0, _ => Nat.le_refl _
  | _ + 1, [] => Nat.zero_le _
  | n + 1, p :: r => by
    rw [show trav (n + 1) (p :: r) = p :: trav n (kids p ++ r) from rfl, List.length_cons]
    exact Nat.succ_le_succ (trav_len n _)
section
variable {n : Nat} {Q : R → List Slot → Prop} {X : Exn → List Slot → Prop}
theorem rev_last (r : List D) (p : D) : (p :: r).reverse.getLast? = some p := by simp
theorem wp_law_nodes (hn : 1 ≤ n) (f : D) (hf : Sm f) (hq : Q (.fr (trav 60 [f])) [.u]) : CWp (callOut (callN L n) "_law_nodes" [.v f]) Q X := by
  refine wp_def L__law_nodes hn rfl rfl fun m hm => ?_
  unfold F__law_nodes
  simp
  rw [Wp_bind]
  obtain ⟨I, hI⟩ := opq fun (k : Nat) (e : Env) => ∃ found st s3 s4, e = [.v f, .ol found, .ol st.reverse, s3, s4] ∧ found ++ trav (60 - k) st = trav 60 [f] ∧ (∀ x ∈ st, Sm x) ∧ st.length ≤ 1 + 100 * k ∧ found.length ≤ k
  refine wp_for I (by rw [hI]; exact ⟨[], [f], _, _, rfl, rfl, fun x hx => by rw [List.mem_singleton] at hx; subst hx; exact hf, by simp, by simp⟩) ?_ ?_
  · intro k x e hx hi
    rw [hI] at hi
    obtain ⟨found, st, s3, s4, rfl, h1, h2, h3, h4⟩ := hi
    have hk : k < 60 := by
      have := (List.getElem?_eq_some_iff.mp hx).1
      simpa [rangeL, rangeN] using this
    refine ⟨_, rfl, ?_⟩
    cases st with
    | nil =>
      rw [trav_nil, List.append_nil] at h1
      subst h1
      simpa using hq
    | cons p r =>
      have hl : (r.reverse ++ [p]).isEmpty = false := by cases r.reverse <;> rfl
      have hfl : found.length < 16777216 := by omega
      have hs := h2 p List.mem_cons_self
      have hk2 := kids_sm hs
      rw [List.length_cons] at h3
      have fin : ∀ s3 s4, I (k + 1) [.v f, .ol (found ++ [p]), .ol (kids p ++ r).reverse, s3, s4] := fun s3 s4 => by
        rw [hI]
        refine ⟨_, _, _, _, rfl, ?_, ?_, ?_, ?_⟩
        · rw [List.append_assoc, ← h1, show 60 - k = (60 - (k + 1)) + 1 by omega]
          rfl
        · intro x hx
          rcases List.mem_append.mp hx with z | z
          · exact hk2.1 x z
          · exact h2 x (List.mem_cons_of_mem _ z)
        · rw [List.length_append]; omega
        · simp; omega
      have none : kids p = [] → ∀ s3 s4, I (k + 1) [.v f, .ol (found ++ [p]), .ol r.reverse, s3, s4] := fun e s3 s4 => by
        have := fin s3 s4
        rwa [e, List.nil_append] at this
      simp [hl, hfl]
      cases p with
      | tuple xs =>
        cases xs with
        | nil =>
          simp
          exact none rfl _ _
        | cons h t =>
          simp
          cases h5 : (eqS h "not" || (eqS h "and" || eqS h "or")) with
          | false =>
            simp
            exact none (by simp [kids, h5]) _ _
          | true =>
            have hkt : kids (.tuple (h :: t)) = t := by simp only [kids, h5, if_true]
            rw [hkt] at fin hk2
            have htl := hk2.2
            have hex : r.length + t.length ≤ 16777216 := by omega
            simp [hex]
            have := fin (.v x) (.v (.tuple (h :: t)))
            rwa [List.reverse_append] at this
      | _ => simp; exact none rfl _ _
  · intro e hi
    rw [hI] at hi
    obtain ⟨found, st, s3, s4, rfl, h1, h2, h3, h4⟩ := hi
    have hlen : (rangeL 0 (rangeN 0 60) 1).length = 60 := by simp [rangeL, rangeN]
    rw [hlen] at h1
    rw [show (60 - 60 : Nat) = 0 from rfl, show trav 0 st = [] from rfl, List.append_nil] at h1
    subst h1
    simpa using hq
end
end LW
end

section
set_option autoImplicit false
set_option linter.all false
set_option maxRecDepth 100000
set_option maxHeartbeats 4000000
namespace LW
open PySem (Str PyData)
open MP
def firstBad (many : Int) : Nat → List D → Option Str
  | _, [] => none
  | k, p :: r => if k = 12 then some (Str.ofString "nodes") else if isNodeL many p = true then firstBad many (k + 1) r else some (Str.ofString "formula")
def numP (ps : D) : Int := match ps with
  | .tuple l => l.length
  | _ => 0
def reasonF (cols : Int) (q : D) : Option Str := match q with
  | .tuple [ps, f] => (match patsR cols 1 ps with
    | some s => some s
    | none => firstBad (numP ps) 0 (trav 60 [f]))
  | _ => some (Str.ofString "shape")
/-- a thing asked about -/
def Thing (q : D) : Prop := Sm q
theorem cls_BQ : L.cls "BadQuestion" = some ⟨.one, ["reason"], ["BadQuestion", "TruceError"]⟩ := rfl
theorem con_MN : L.con "MOST_NODES" = some (.int 12) := rfl
section
variable {n : Nat} {Q : R → List Slot → Prop} {X : Exn → List Slot → Prop}
theorem raise_BQ {call : CallF} (hcl : call.cls = L.cls) (io : List Nat) (x : Ex) (e : Env) (P : Flow → Env → Prop) (E : Exn → Env → Prop) (s : Str) (hs : s.length ≤ 900) (h : ev call x e = .ok (.st (.str s)) e) (hE : E ⟨"BadQuestion", [.str s]⟩ e) :
    Wp (exec call io (.raise "BadQuestion" (.cons x .nil)) e) P E := by
  rw [s_raise call e io "BadQuestion" _ _ (by rw [hcl]; exact cls_BQ) (by decide)]
  have hok : XKind.ok .one [.str s] = true := by simp [XKind.ok, hs]
  simp [h, hok]
  exact hE
theorem isNode_kids {many : Int} {p : D} (h : isNodeL many p = true) : ∃ h0 t, p = .tuple (h0 :: t) ∧ kids p = if eqS h0 "least" = true then [] else t := by
  unfold isNodeL at h
  split at h
  · rename_i h0 t
    refine ⟨h0, t, rfl, ?_⟩
    unfold kids
    dsimp only
    by_cases h1 : eqS h0 "least" = true
    · rw [if_pos h1]
      have := eqS_iff.mp h1
      subst this
      rw [if_neg]
      simp only [eqS_str]
      decide
    · rw [if_neg h1]
      rw [if_neg h1] at h
      by_cases h2 : eqS h0 "not" = true
      · rw [if_pos (by rw [h2]; rfl)]
      · rw [if_neg h2, Bool.and_eq_true] at h
        rw [if_pos (by rw [h.1]; simp)]
  · cases h
theorem patsR_len {cols low : Int} {ps : D} {s : Str} (h : patsR cols low ps = some s) : s.length ≤ 900 := by
  unfold patsR at h
  split at h
  · split at h
    · split at h
      · cases h
      · cases h; decide
    · cases h; decide
  · cases h; decide
theorem patsR_tup {cols low : Int} {ps : D} (h : patsR cols low ps = none) : ∃ l, ps = .tuple l := by
  unfold patsR at h
  split at h
  · exact ⟨_, rfl⟩
  · cases h
theorem wp_check (hn : 3 ≤ n) (cols : Int) (hc : cols ≤ 1000) (q : D) (hq : Thing q) (h0 : reasonF cols q = none → Q (.st .none) [.u, .u]) (h1 : ∀ s, reasonF cols q = some s → X ⟨"BadQuestion", [.str s]⟩ [.u, .u]) :
    CWp (callOut (callN L n) "check_question" [.v (.int cols), .v q]) Q X := by
  refine wp_def L_check_question (by omega) rfl rfl fun m hm => ?_
  have hs1 : ((callN L m).fn "wrong_patterns").isSome = true := fn_isSome' L_wrong_patterns (by omega)
  have hs2 : ((callN L m).fn "is_part").isSome = true := fn_isSome' L_is_part (by omega)
  unfold F_check_question
  have shape : reasonF cols q = some (Str.ofString "shape") → ∀ e, kRetX 2 [] X ⟨"BadQuestion", [.str (Str.ofString "shape")]⟩ e := fun e z => by
    rw [kRetX_app]
    exact h1 _ e
  cases q with
  | tuple xs =>
    simp
    cases h2 : decide ((xs.length : Int) = 2) with
    | false =>
      simp [Wp_bind]
      refine raise_BQ callN_cls _ _ _ _ _ _ (by decide) rfl (shape ?_ _)
      rcases xs with _ | ⟨a, _ | ⟨b, _ | ⟨c, r⟩⟩⟩ <;> first | rfl | (simp at h2)
    | true =>
      obtain ⟨ps, f, rfl⟩ : ∃ ps f, xs = [ps, f] := by
        rcases xs with _ | ⟨a, _ | ⟨b, _ | ⟨c, r⟩⟩⟩
        · simp at h2
        · simp at h2
        · exact ⟨a, b, rfl⟩
        · simp at h2; omega
      have hR : reasonF cols (.tuple [ps, f]) = (match patsR cols 1 ps with
        | some s => some s
        | none => firstBad (numP ps) 0 (trav 60 [f])) := rfl
      rw [hR] at h0 h1
      simp [Wp_bind]
      refine wp_callA hs1 ?_
      simp
      refine wp_wrong_patterns (by omega) _ _ hc _ ?_
      cases h3 : patsR cols 1 ps with
      | some s =>
        rw [h3] at h1
        simp [optS, Wp_bind]
        exact raise_BQ callN_cls _ _ _ _ _ s (patsR_len h3) rfl (h1 s rfl)
      | none =>
        rw [h3] at h0 h1
        dsimp only at h0 h1
        simp [optS, Wp_bind]
        obtain ⟨l, rfl⟩ := patsR_tup h3
        generalize hmany : numP (.tuple l) = many at h0 h1
        have hmany' : (l.length : Int) = many := hmany
        have hf : Sm f := by
          cases hq with
          | tup _ ha => exact ha f (by simp)
        obtain ⟨I, hI⟩ := opq fun (mm : Nat) (e : Env) => ∃ (c : Nat) (st : List D) (s5 : Slot), e = [.v (.int cols), .v (.tuple [.tuple l, f]), .v .none, .ol st.reverse, .v (.int c), s5] ∧ c ≤ 12 ∧ mm = 13 - c ∧
          firstBad many c (trav (60 - c) st) = firstBad many 0 (trav 60 [f]) ∧ (∀ x ∈ st, Sm x) ∧ st.length ≤ 1 + 100 * c
        refine wp_while I turns 13 _ (by decide) (by rw [hI]; exact ⟨0, [f], _, rfl, by omega, rfl, rfl, fun x hx => by rw [List.mem_singleton] at hx; subst hx; exact hf, by simp⟩) ?_
        intro mm e hi
        rw [hI] at hi
        obtain ⟨c, st, s5, rfl, hc1, hmm, hfb, hsm, hsl⟩ := hi
        cases st with
        | nil =>
          simp
          refine h0 ?_
          rw [← hfb]
          simp [firstBad]
        | cons p r =>
          have hl : (r.reverse ++ [p]).isEmpty = false := by cases r.reverse <;> rfl
          have hs := hsm p List.mem_cons_self
          have hk2 := kids_sm hs
          rw [List.length_cons] at hsl
          have htr : trav (60 - c) (p :: r) = p :: trav (60 - (c + 1)) (kids p ++ r) := by
            rw [show 60 - c = (60 - (c + 1)) + 1 by omega]
            rfl
          rw [htr] at hfb
          simp [hl, con_MN, Wp_bind]
          by_cases h12 : c = 12
          · subst h12
            simp [Wp_bind]
            refine raise_BQ callN_cls _ _ _ _ _ _ (by decide) rfl ?_
            refine h1 _ ?_
            rw [← hfb]
            simp [firstBad]
          · have hgt : decide ((12 : Int) < (c : Int) + 1) = false := decide_eq_false (by omega)
            simp [hgt, Wp_bind]
            refine wp_callA hs2 ?_
            simp
            refine wp_is_part (by omega) _ _ ?_
            simp
            rw [hmany']
            cases hnode : isNodeL many p with
            | false =>
              simp [Wp_bind]
              refine raise_BQ callN_cls _ _ _ _ _ _ (by decide) rfl ?_
              refine h1 _ ?_
              rw [← hfb]
              simp [firstBad, h12, hnode]
            | true =>
              obtain ⟨h0', t, rfl, hkd⟩ := isNode_kids hnode
              have hfb' : firstBad many (c + 1) (trav (60 - (c + 1)) (kids (.tuple (h0' :: t)) ++ r)) = firstBad many 0 (trav 60 [f]) := by
                rw [← hfb]
                simp [firstBad, h12, hnode]
              have fin : ∀ s5, ∃ m', m' < mm ∧ I m' [.v (.int cols), .v (.tuple [.tuple l, f]), .v .none, .ol (kids (.tuple (h0' :: t)) ++ r).reverse, .v (.int ((c : Int) + 1)), s5] := fun s5 => by
                refine ⟨13 - (c + 1), by omega, ?_⟩
                rw [hI]
                refine ⟨c + 1, _, s5, rfl, by omega, rfl, hfb', fun x hx => ?_, by rw [List.length_append]; omega⟩
                rcases List.mem_append.mp hx with z | z
                · exact hk2.1 x z
                · exact hsm x (List.mem_cons_of_mem _ z)
              rw [hkd] at fin
              simp
              cases hle : eqS h0' "least" with
              | true =>
                rw [hle, if_pos rfl, List.nil_append] at fin
                simp
                exact fin _
              | false =>
                rw [hle, if_neg Bool.false_ne_true] at fin
                rw [hkd, hle, if_neg Bool.false_ne_true] at hk2
                have htl := hk2.2
                have hex : r.length + t.length ≤ 16777216 := by omega
                simp [hex]
                have := fin (.v (.tuple (h0' :: t)))
                rwa [List.reverse_append] at this
  | _ =>
    simp [Wp_bind]
    refine raise_BQ callN_cls _ _ _ _ _ _ (by decide) rfl (shape rfl _)
end
end LW
end

section
set_option autoImplicit false
set_option linter.all false
set_option maxRecDepth 100000
set_option maxHeartbeats 4000000
namespace LW
open PySem (Str PyData)
open MP
section
variable {n : Nat} {Q : R → List Slot → Prop} {X : Exn → List Slot → Prop}
theorem wp_law_nodes' (hn : 1 ≤ n) (f : D) (hf : Sm f) (tr : List D) (h : trav 60 [f] = tr) (hq : Q (.fr tr) [.u]) : CWp (callOut (callN L n) "_law_nodes" [.v f]) Q X := by
  subst h
  exact wp_law_nodes hn f hf hq
theorem wp_law_reason (hn : 3 ≤ n) (cols : Int) (hc : cols ≤ 1000) (q : D) (hT : Thing q) (hq : Q (.st (optS (reasonF cols q))) [.u, .u]) : CWp (callOut (callN L n) "_law_reason" [.v (.int cols), .v q]) Q X := by
  refine wp_def L__law_reason (by omega) rfl rfl fun m hm => ?_
  have hs1 : ((callN L m).fn "_law_is_int").isSome = true := fn_isSome' L__law_is_int (by omega)
  have hs2 : ((callN L m).fn "_law_nodes").isSome = true := fn_isSome' L__law_nodes (by omega)
  have hs3 : ((callN L m).fn "_law_is_node").isSome = true := fn_isSome' L__law_is_node (by omega)
  unfold F__law_reason
  cases q with
  | tuple xs =>
    simp
    cases h2 : decide ((xs.length : Int) = 2) with
    | false =>
      have : reasonF cols (.tuple xs) = some (Str.ofString "shape") := by
        rcases xs with _ | ⟨a, _ | ⟨b, _ | ⟨c, r⟩⟩⟩ <;> first | rfl | (simp at h2)
      rw [this] at hq
      simpa [optS] using hq
    | true =>
      obtain ⟨ps, f, rfl⟩ : ∃ ps f, xs = [ps, f] := by
        rcases xs with _ | ⟨a, _ | ⟨b, _ | ⟨c, r⟩⟩⟩
        · simp at h2
        · simp at h2
        · exact ⟨a, b, rfl⟩
        · simp at h2; omega
      have hf : Sm f := by
        cases hT with
        | tup _ ha => exact ha f (by simp)
      obtain ⟨tr, htr, hlen⟩ : ∃ tr, trav 60 [f] = tr ∧ tr.length ≤ 60 := ⟨_, rfl, trav_len _ _⟩
      have hR : reasonF cols (.tuple [ps, f]) = (match patsR cols 1 ps with
        | some s => some s
        | none => firstBad (numP ps) 0 tr) := by rw [← htr]; rfl
      rw [hR] at hq
      simp
      cases ps with
      | tuple l =>
        have hP : patsR cols 1 (.tuple l) = if (1 : Int) ≤ (l.length : Int) ∧ (l.length : Int) ≤ 3 then (if l.all (patOk cols) = true then none else some (Str.ofString "pattern")) else some (Str.ofString "patterns") := rfl
        simp
        cases h1 : decide ((1 : Int) ≤ l.length) with
        | false =>
          simp only [decide_eq_false_iff_not] at h1
          rw [hP, if_neg (by omega)] at hq
          simpa [optS] using hq
        | true =>
          simp only [decide_eq_true_eq] at h1
          simp
          cases h2 : decide ((l.length : Int) ≤ 3) with
          | false =>
            simp only [decide_eq_false_iff_not] at h2
            rw [hP, if_neg (by omega)] at hq
            simpa [optS] using hq
          | true =>
            simp only [decide_eq_true_eq] at h2
            rw [hP, if_pos ⟨h1, h2⟩] at hq
            simp [Wp_bind]
            obtain ⟨I, hI⟩ := opq fun (k : Nat) (e : Env) => ∃ s3 s6, e = [.v (.int cols), .v (.tuple [.tuple l, f]), .v (.tuple l), s3, .u, .u, s6] ∧ (l.take k).all (patOk cols) = true
            refine wp_for I (by rw [hI]; exact ⟨_, _, rfl, rfl⟩) ?_ ?_
            · intro k x e hx hi
              rw [hI] at hi
              obtain ⟨s3, s6, rfl, hk⟩ := hi
              refine ⟨_, rfl, ?_⟩
              have bad : patOk cols x = false → l.all (patOk cols) = false := fun h => by
                rw [List.all_eq_false]
                exact ⟨x, List.mem_of_getElem? hx, by simp [h]⟩
              cases x with
              | tuple es =>
                simp
                cases h3 : decide ((es.length : Int) = cols) with
                | false =>
                  rw [bad (by simp [patOk, h3])] at hq
                  simpa [optS] using hq
                | true =>
                  simp [Wp_bind]
                  refine wp_ecomp rfl ?_
                  simp
                  obtain ⟨J, hJ⟩ := opq fun (j : Nat) (acc : List D) (e : Env) => ∃ s6, e = [.v (.int cols), .v (.tuple [.tuple l, f]), .v (.tuple l), .v (.tuple es), .u, .u, s6] ∧ acc = (es.map fun e => .bool (entOk e)).take j
                  refine wp_comp J (by rw [hJ]; exact ⟨_, rfl, rfl⟩) ?_ ?_ ?_
                  · have h5 : (es.length : Int) = cols := of_decide_eq_true h3
                    rw [line_val]; omega
                  · intro j y acc e hy hi
                    rw [hJ] at hi
                    obtain ⟨s4, rfl, rfl⟩ := hi
                    have step : ∀ s6, J (j + 1) ((es.map fun e => .bool (entOk e)).take j ++ [.bool (entOk y)]) [.v (.int cols), .v (.tuple [.tuple l, f]), .v (.tuple l), .v (.tuple es), .u, .u, s6] := fun s6 => by
                      rw [hJ]
                      exact ⟨_, rfl, map_take_succ es _ j y hy⟩
                    simp
                    cases h4 : isNone y with
                    | true =>
                      simp
                      have := step (.v y)
                      rwa [show entOk y = true by simp [entOk, h4]] at this
                    | false =>
                      simp [Wp_bind]
                      refine wp_callA hs1 ?_
                      simp
                      refine wp_law_is_int (by omega) _ ?_
                      cases y with
                      | int i =>
                        simp [isIntD]
                        have := step (.v (.int i))
                        cases h6 : decide (0 ≤ i) with
                        | false =>
                          simp
                          rwa [show entOk (.int i) = false by simp [entOk, isIntIn, h6]] at this
                        | true =>
                          simp
                          rwa [show entOk (.int i) = decide (i ≤ 999) by simp [entOk, isIntIn, h6]] at this
                      | none => cases h4
                      | _ =>
                        simp [isIntD]
                        exact step _
                  · intro acc e hi
                    rw [hJ] at hi
                    obtain ⟨s4', rfl, rfl⟩ := hi
                    rw [map_take_all]
                    simp [b1_all_map]
                    cases h4 : es.all entOk with
                    | true =>
                      simp
                      rw [hI]
                      exact ⟨_, _, rfl, take_all_succ l _ k _ hx hk (by simp [patOk, h3, h4])⟩
                    | false =>
                      rw [bad (by simp [patOk, h4])] at hq
                      simpa [optS] using hq
              | _ =>
                rw [bad rfl] at hq
                simpa [optS] using hq
            · intro e hi
              rw [hI] at hi
              obtain ⟨s3, s4, rfl, hk⟩ := hi
              rw [List.take_length] at hk
              rw [hk, if_pos rfl] at hq
              simp [Wp_bind]
              refine wp_callA hs2 ?_
              simp
              refine wp_law_nodes' (by omega) _ hf tr htr ?_
              have hsm : smallI (tr.length : Int) = true := smallI_nat _ (by omega)
              have hmany : numP (.tuple l) = (l.length : Int) := rfl
              rw [hmany] at hq
              dsimp only at hq
              simp [hsm, Wp_bind]
              obtain ⟨I, hI⟩ := opq fun (k : Nat) (e : Env) => ∃ s5 s6, e = [.v (.int cols), .v (.tuple [.tuple l, f]), .v (.tuple l), s3, .v (.list tr), s5, s6] ∧ firstBad l.length k (tr.drop k) = firstBad l.length 0 tr ∧ k ≤ 12
              refine wp_for I (by rw [hI]; exact ⟨_, _, rfl, by simp, by omega⟩) ?_ ?_
              · intro k x e hx hi
                rw [hI] at hi
                obtain ⟨s5, s6, rfl, hfb, hk12⟩ := hi
                rw [range0_get] at hx
                split at hx
                · rename_i hkl
                  cases hx
                  refine ⟨_, rfl, ?_⟩
                  have hdrop : tr.drop k = tr[k] :: tr.drop (k + 1) := (List.drop_eq_getElem_cons hkl)
                  rw [hdrop] at hfb
                  simp
                  by_cases h12 : k = 12
                  · subst h12
                    rw [← hfb] at hq
                    simpa [firstBad, optS] using hq
                  · have hne : decide ((k : Int) = 12) = false := decide_eq_false (by omega)
                    have hat : atI tr (k : Int) = some tr[k] := by rw [atI_lit _ _ hkl, List.getElem?_eq_getElem hkl]
                    simp [hne, Wp_bind]
                    refine wp_callA hs3 ?_
                    simp [hat]
                    refine wp_law_is_node (by omega) _ _ ?_
                    simp
                    cases hnode : isNodeL (l.length : Int) tr[k] with
                    | false =>
                      rw [← hfb] at hq
                      simpa [firstBad, optS, h12, hnode] using hq
                    | true =>
                      simp
                      rw [hI]
                      refine ⟨_, _, rfl, ?_, by omega⟩
                      rw [← hfb]
                      simp [firstBad, h12, hnode]
                · cases hx
              · intro e hi
                rw [hI] at hi
                obtain ⟨s5, s6, rfl, hfb, hk12⟩ := hi
                rw [range0_len, List.drop_length] at hfb
                rw [← hfb] at hq
                simpa [firstBad, optS] using hq
      | _ => simpa [optS, patsR] using hq
  | _ => simpa [reasonF, optS] using hq
end
end LW
end

section
set_option autoImplicit false
set_option linter.all false
set_option maxRecDepth 100000
set_option maxHeartbeats 4000000
namespace LW
open PySem (Str PyData)
open MP
section
variable {n : Nat} {Q : R → List Slot → Prop} {X : Exn → List Slot → Prop}
theorem cls_TE : L.cls "TruceError" = some ⟨.base, [], ["TruceError"]⟩ := rfl
theorem cls_BT : L.cls "BadTable" = some ⟨.two, ["row", "reason"], ["BadTable", "TruceError"]⟩ := rfl
theorem wp_is_question (hn : 4 ≤ n) (cols : Int) (hc : cols ≤ 1000) (q : D) (hT : Thing q) (hq : Q (.st (.bool (reasonF cols q).isNone)) [.u, .u]) : CWp (callOut (callN L n) "is_question" [.v (.int cols), .v q]) Q X := by
  refine wp_def L_is_question (by omega) rfl rfl fun m hm => ?_
  have hs1 : ((callN L m).fn "check_question").isSome = true := fn_isSome' L_check_question (by omega)
  unfold F_is_question
  simp [Wp_bind]
  refine wp_try (by rw [callN_cls]; rfl) ?_
  simp [Wp_bind]
  refine wp_callA hs1 ?_
  simp
  refine wp_check (by omega) _ hc _ hT (fun h => ?_) fun s h => ?_
  · rw [h] at hq
    simpa using hq
  · rw [h] at hq
    simp [handle, catches, cls_BQ, hss, hst, hev, suiteOut]
    simpa using hq
theorem wp_law_refused (hn : 4 ≤ n) (cols : Int) (hc : cols ≤ 1000) (q : D) (hT : Thing q) (hq : Q (.st (.bool true)) [.u, .u, .u]) : CWp (callOut (callN L n) "_law_refused" [.v (.int cols), .v q, .v (optS (reasonF cols q))]) Q X := by
  refine wp_def L__law_refused (by omega) rfl rfl fun m hm => ?_
  have hs1 : ((callN L m).fn "check_question").isSome = true := fn_isSome' L_check_question (by omega)
  unfold F__law_refused
  simp [Wp_bind]
  refine wp_try (by rw [callN_cls]; rfl) ?_
  simp [Wp_bind]
  refine wp_callA hs1 ?_
  simp
  refine wp_check (by omega) _ hc _ hT (fun h => ?_) fun s h => ?_
  · rw [h]
    simpa [optS] using hq
  · rw [h]
    simp [handle, catches, cls_BQ, cls_TE, cls_BT, hss, hst, hev, suiteOut, fldOf, optS]
    exact hq
theorem wp_law_says (hn : 1 ≤ n) (a b : Bool) (hq : Q (.st (.bool (a == b))) [.u, .u]) : CWp (callOut (callN L n) "_law_says" [.v (.bool a), .v (.bool b)]) Q X := by
  refine wp_def L__law_says (by omega) rfl rfl fun m hm => ?_
  unfold F__law_says
  have hb : cmp .eq (.bool a) (.bool b) = some (a == b) := by
    show (if shallow (.bool a) (.bool b) = true then some (PyData.eqv (.bool a) (.bool b)) else none) = _
    rw [if_pos (by unfold shallow; rw [depth_bool]; rfl)]
    unfold PyData.eqv
    rfl
  simp [hb]
  simpa using hq
end
end LW
end

section
set_option autoImplicit false
set_option linter.all false
set_option maxRecDepth 100000
set_option maxHeartbeats 4000000
namespace LW
open PySem (Str PyData)
open MP
theorem pairs_get : ∀ (xs : List D) (n k : Nat), (pairs n xs)[k]? = (xs[k]?).map fun x => .tuple [.int ((n + k : Nat) : Int), x]
  | [], n, k => by simp [pairs]
  | x :: xs, n, 0 => by simp [pairs]
  | x :: xs, n, k + 1 => by
    rw [show pairs n (x :: xs) = .tuple [.int n, x] :: pairs (n + 1) xs from rfl, List.getElem?_cons_succ, List.getElem?_cons_succ, pairs_get xs (n + 1) k]
    rw [show n + 1 + k = n + (k + 1) by omega]
theorem pairs_len : ∀ (xs : List D) (n : Nat), (pairs n xs).length = xs.length
  | [], _ => rfl
  | x :: xs, n => by rw [show pairs n (x :: xs) = .tuple [.int n, x] :: pairs (n + 1) xs from rfl, List.length_cons, pairs_len xs, List.length_cons]
def optI : Option Int → D
  | none => .none
  | some i => .int i
def test (pc : Option Int × Int) : Bool := match pc.1 with
  | none => true
  | some i => decide (i = pc.2)
def matchF (pat : List (Option Int)) (cells : List Int) : Bool := (pat.zip cells).all test
section
variable {n : Nat} {Q : R → List Slot → Prop} {X : Exn → List Slot → Prop}
theorem zip_at {pat : List (Option Int)} {cells : List Int} (hl : pat.length = cells.length) {k : Nat} {p : Option Int} (h : pat[k]? = some p) : ∃ c, cells[k]? = some c ∧ (pat.zip cells)[k]? = some (p, c) := by
  obtain ⟨hk, e⟩ := List.getElem?_eq_some_iff.mp h
  refine ⟨cells[k]'(by omega), List.getElem?_eq_getElem _, ?_⟩
  rw [List.getElem?_zip_eq_some]
  exact ⟨h, List.getElem?_eq_getElem _⟩
theorem wp_matches (hn : 1 ≤ n) (pat : List (Option Int)) (cells : List Int) (hl : pat.length = cells.length) (h100 : pat.length ≤ 1000) (hq : Q (.st (.bool (matchF pat cells))) [.u, .u]) : CWp (callOut (callN L n) "matches" [.v (.tuple (pat.map optI)), .v (.tuple (cells.map .int))]) Q X := by
  refine wp_def L_matches (by omega) rfl rfl fun m hm => ?_
  unfold F_matches
  simp [Wp_bind]
  refine wp_ecomp rfl ?_
  simp
  obtain ⟨J, hJ⟩ := opq fun (j : Nat) (acc : List D) (e : Env) => ∃ s2 s3, e = [.v (.tuple (pat.map optI)), .v (.tuple (cells.map .int)), s2, s3] ∧ acc = ((pat.zip cells).map fun pc => .bool (test pc)).take j
  refine wp_comp J (by rw [hJ]; exact ⟨_, _, rfl, rfl⟩) ?_ ?_ ?_
  · rw [pairs_len, line_val]; simp; omega
  · intro j y acc e hy hi
    rw [hJ] at hi
    obtain ⟨s2, s3, rfl, rfl⟩ := hi
    rw [pairs_get, List.getElem?_map] at hy
    obtain ⟨x, hx, rfl⟩ := Option.map_eq_some_iff.mp hy
    obtain ⟨p, hp, rfl⟩ := Option.map_eq_some_iff.mp hx
    obtain ⟨c, hc, hz⟩ := zip_at hl hp
    have step : ∀ s2 s3, J (j + 1) (((pat.zip cells).map fun pc => .bool (test pc)).take j ++ [.bool (test (p, c))]) [.v (.tuple (pat.map optI)), .v (.tuple (cells.map .int)), s2, s3] := fun s2 s3 => by
      rw [hJ]
      exact ⟨_, _, rfl, map_take_succ (pat.zip cells) _ j _ hz⟩
    have hat : atI (cells.map PyData.int) (j : Int) = some (.int c) := by
      rw [atI_lit _ _ (by simpa using (List.getElem?_eq_some_iff.mp hc).1), List.getElem?_map, hc]
      rfl
    simp
    cases p with
    | none =>
      simp [optI]
      exact step _ _
    | some i =>
      simp [optI, hat]
      exact step _ _
  · intro acc e hi
    rw [hJ] at hi
    obtain ⟨s2, s3, rfl, rfl⟩ := hi
    rw [pairs_len, List.length_map, show pat.length = (pat.zip cells).length by simp [hl], map_take_all]
    simp [b1_all_map]
    exact hq
theorem wp_law_matches (hn : 1 ≤ n) (pat : List (Option Int)) (cells : List Int) (hl : pat.length = cells.length) (h100 : pat.length ≤ 1000) (hq : Q (.st (.bool (matchF pat cells))) [.u, .u]) : CWp (callOut (callN L n) "_law_matches" [.v (.tuple (pat.map optI)), .v (.tuple (cells.map .int))]) Q X := by
  refine wp_def L__law_matches (by omega) rfl rfl fun m hm => ?_
  unfold F__law_matches
  simp [Wp_bind]
  refine wp_ecomp rfl ?_
  have hsm : smallI (cells.length : Int) = true := smallI_nat _ (by omega)
  simp [hsm]
  obtain ⟨J, hJ⟩ := opq fun (j : Nat) (acc : List D) (e : Env) => ∃ s2, e = [.v (.tuple (pat.map optI)), .v (.tuple (cells.map .int)), s2] ∧ acc.isEmpty = ((pat.zip cells).take j).all test
  refine wp_comp J (by rw [hJ]; exact ⟨_, rfl, rfl⟩) ?_ ?_ ?_
  · rw [range0_len, line_val]; omega
  · intro j y acc e hy hi
    rw [hJ] at hi
    obtain ⟨s2, rfl, ha⟩ := hi
    rw [range0_get] at hy
    split at hy
    · rename_i hj
      cases hy
      have hjp : j < pat.length := by omega
      have hp : pat[j]? = some pat[j] := List.getElem?_eq_getElem hjp
      obtain ⟨c, hc, hz⟩ := zip_at hl hp
      have h1 : ((pat.zip cells).take (j + 1)).all test = (((pat.zip cells).take j).all test && test (pat[j], c)) := by
        rw [List.take_succ, hz, List.all_append]
        simp
      have hat : atI (cells.map PyData.int) (j : Int) = some (.int c) := by
        rw [atI_lit _ _ (by simpa using hj), List.getElem?_map, hc]
        rfl
      have hatp : atI (pat.map optI) (j : Int) = some (optI pat[j]) := by
        rw [atI_lit _ _ (by simpa using hjp), List.getElem?_map, hp]
        rfl
      simp [hatp]
      cases hpj : pat[j] with
      | none =>
        rw [hpj] at h1
        simp [optI]
        rw [hJ]
        exact ⟨_, rfl, by rw [ha, h1]; simp [test]⟩
      | some i =>
        rw [hpj] at h1
        simp [optI, hat, hatp, hpj]
        cases hd : decide (i = c) with
        | true =>
          simp
          rw [hJ]
          exact ⟨_, rfl, by rw [ha, h1]; simp [test, hd]⟩
        | false =>
          simp
          rw [hJ]
          exact ⟨_, rfl, by rw [h1]; simp [test, hd]⟩
    · cases hy
  · intro acc e hi
    rw [hJ] at hi
    obtain ⟨s2, rfl, ha⟩ := hi
    rw [range0_len, show cells.length = (pat.zip cells).length by simp [hl], List.take_length] at ha
    simp [ha]
    exact hq
end
end LW
end

section
set_option autoImplicit false
set_option linter.all false
set_option maxRecDepth 100000
set_option maxHeartbeats 4000000
namespace LW
open PySem (Str PyData)
open MP
abbrev RowT := Int × Int × Int × List Int
def rowD (r : RowT) : D := .tuple [.int r.1, .int r.2.1, .int r.2.2.1, .tuple (r.2.2.2.map .int)]
def rowsD (T : List RowT) : D := .tuple (T.map rowD)
def cellsAt (T : List RowT) (r : Nat) : List Int := ((T[r]?).getD (0, 0, 0, [])).2.2.2
/-- rows of a table; a set of their numbers; patterns of its width -/
structure Tab (cols : Nat) (T : List RowT) : Prop where
  w : ∀ r ∈ T, r.2.2.2.length = cols
  c : cols ≤ 1000
def chD (ch : List Nat) : D := .tuple (ch.map fun (r : Nat) => .int (r : Int))
def mt (pat : List (Option Int)) (T : List RowT) (r : Nat) : Bool := matchF pat (cellsAt T r)
def cnt (pat : List (Option Int)) (T : List RowT) (ch : List Nat) : Nat := min (ch.filter (mt pat T)).length 3
def prof (pats : List (List (Option Int))) (T : List RowT) (ch : List Nat) : List Int := pats.map fun p => (cnt p T ch : Int)
def patsD (pats : List (List (Option Int))) : D := .tuple (pats.map fun p => .tuple (p.map optI))
section
variable {n : Nat} {Q : R → List Slot → Prop} {X : Exn → List Slot → Prop}
theorem row_at {cols : Nat} {T : List RowT} (hT : Tab cols T) {r : Nat} (hr : r < T.length) : atI (T.map rowD) (r : Int) = some (rowD T[r]) ∧ cellsAt T r = T[r].2.2.2 ∧ (cellsAt T r).length = cols := by
  refine ⟨?_, ?_, ?_⟩
  · rw [atI_lit _ _ (by simpa using hr), List.getElem?_map, List.getElem?_eq_getElem hr]
    rfl
  · unfold cellsAt
    rw [List.getElem?_eq_getElem hr]
    rfl
  · unfold cellsAt
    rw [List.getElem?_eq_getElem hr]
    exact hT.w _ (List.getElem_mem hr)
theorem filter_take_succ {α : Type} (l : List α) (f : α → Bool) (k : Nat) (x : α) (h : l[k]? = some x) : (l.take (k + 1)).filter f = (l.take k).filter f ++ if f x then [x] else [] := by
  rw [List.take_succ, h, List.filter_append]
  simp [List.filter_cons]
theorem wp_profile_of (hn : 2 ≤ n) (cols : Nat) (T : List RowT) (hT : Tab cols T) (pats : List (List (Option Int))) (hp : ∀ p ∈ pats, p.length = cols) (hpl : pats.length ≤ 100) (ch : List Nat) (hch : ∀ r ∈ ch, r < T.length) (hcl : ch.length ≤ 1000)
    (hq : Q (.st (.tuple ((prof pats T ch).map .int))) [.u, .u, .u]) : CWp (callOut (callN L n) "profile_of" [.v (patsD pats), .v (rowsD T), .v (chD ch)]) Q X := by
  refine wp_def L_profile_of (by omega) rfl rfl fun m hm => ?_
  have hs1 : ((callN L m).fn "matches").isSome = true := fn_isSome' L_matches (by omega)
  unfold F_profile_of
  simp [Wp_bind, patsD]
  obtain ⟨I, hI⟩ := opq fun (k : Nat) (e : Env) => ∃ s4 s5, e = [.v (patsD pats), .v (rowsD T), .v (chD ch), .ol (((prof pats T ch).map .int).take k), s4, s5, .u]
  refine wp_for I (by rw [hI]; exact ⟨_, _, rfl⟩) ?_ ?_
  · intro k x e hx hi
    rw [hI] at hi
    obtain ⟨s4, s5, rfl⟩ := hi
    rw [List.getElem?_map] at hx
    obtain ⟨p, hpk, rfl⟩ := Option.map_eq_some_iff.mp hx
    have hpm : p ∈ pats := List.mem_of_getElem? hpk
    have hplen := hp p hpm
    refine ⟨_, rfl, ?_⟩
    simp [Wp_bind]
    refine wp_ecomp rfl ?_
    simp [chD]
    obtain ⟨J, hJ⟩ := opq fun (j : Nat) (acc : List D) (e : Env) => ∃ s6, e = [.v (patsD pats), .v (rowsD T), .v (chD ch), .ol (((prof pats T ch).map .int).take k), .v (.tuple (p.map optI)), s5, s6] ∧ acc = ((ch.take j).filter (mt p T)).map fun (r : Nat) => .int (r : Int)
    refine wp_comp J (by rw [hJ]; exact ⟨_, rfl, rfl⟩) ?_ ?_ ?_
    · rw [line_val]; simp; omega
    · intro j y acc e hy hi
      rw [hJ] at hi
      obtain ⟨s6, rfl, rfl⟩ := hi
      rw [List.getElem?_map] at hy
      obtain ⟨r, hr, rfl⟩ := Option.map_eq_some_iff.mp hy
      have hrl : r < T.length := hch r (List.mem_of_getElem? hr)
      obtain ⟨h1, h2, h3⟩ := row_at hT hrl
      have hmt : mt p T r = matchF p T[r].2.2.2 := by unfold mt; rw [h2]
      simp [Wp_bind]
      refine wp_callA hs1 ?_
      simp [rowsD, h1, rowD]
      refine wp_matches (by omega) _ _ (by rw [hplen, ← h3, h2]) (by rw [hplen]; exact hT.c) ?_
      simp
      rw [← hmt]
      cases hm : mt p T r with
      | true =>
        simp
        rw [hJ]
        refine ⟨_, rfl, ?_⟩
        rw [filter_take_succ ch _ j r hr, hm]
        simp
      | false =>
        simp
        rw [hJ]
        refine ⟨_, rfl, ?_⟩
        rw [filter_take_succ ch _ j r hr, hm]
        simp
    · intro acc e hi
      rw [hJ] at hi
      obtain ⟨s6, rfl, rfl⟩ := hi
      rw [List.length_map, List.take_length]
      have hlt : min k (prof pats T ch).length < 16777216 := by unfold prof; rw [List.length_map]; omega
      simp [con_CAP, hlt]
      have e1 : (if (3 : Int) < (((ch.filter (mt p T)).length : Nat) : Int) then (3 : Int) else (((ch.filter (mt p T)).length : Nat) : Int)) = (cnt p T ch : Int) := by
        unfold cnt
        split <;> omega
      have hk : (prof pats T ch)[k]? = some (cnt p T ch : Int) := by unfold prof; rw [List.getElem?_map, hpk]; rfl
      rw [e1, map_take_succ (prof pats T ch) PyData.int k _ hk, hI]
      exact ⟨_, _, rfl⟩
  · intro e hi
    rw [hI] at hi
    obtain ⟨s4, s5, rfl⟩ := hi
    have : ((prof pats T ch).map PyData.int).take (pats.map fun p => PyData.tuple (p.map optI)).length = (prof pats T ch).map .int := by
      rw [List.length_map, List.take_of_length_le (by unfold prof; simp)]
    rw [this]
    simp
    exact hq
end
end LW
end

section
set_option autoImplicit false
set_option linter.all false
set_option maxRecDepth 100000
set_option maxHeartbeats 4000000
namespace LW
open PySem (Str PyData)
open MP
inductive Fml where
  | least (i t : Nat)
  | not (f : Fml)
  | and (f g : Fml)
  | or (f g : Fml)
namespace Fml
def toD : Fml → D
  | .least i t => .tuple [.str (Str.ofString "least"), .int i, .int t]
  | .not f => .tuple [.str (Str.ofString "not"), f.toD]
  | .and f g => .tuple [.str (Str.ofString "and"), f.toD, g.toD]
  | .or f g => .tuple [.str (Str.ofString "or"), f.toD, g.toD]
def size : Fml → Nat
  | .least _ _ => 1
  | .not f => f.size + 1
  | .and f g => f.size + g.size + 1
  | .or f g => f.size + g.size + 1
def hv (prof : List Int) : Fml → Bool
  | .least i t => decide ((t : Int) ≤ (prof[i]?).getD 0)
  | .not f => !f.hv prof
  | .and f g => f.hv prof && g.hv prof
  | .or f g => f.hv prof || g.hv prof
def wf (many : Nat) : Fml → Prop
  | .least i t => i < many ∧ 1 ≤ t ∧ t ≤ 3
  | .not f => f.wf many
  | .and f g => f.wf many ∧ g.wf many
  | .or f g => f.wf many ∧ g.wf many
/-- the nodes in order -/
def pre : Fml → List D
  | .least i t => [toD (.least i t)]
  | .not f => toD (.not f) :: f.pre
  | .and f g => toD (.and f g) :: (f.pre ++ g.pre)
  | .or f g => toD (.or f g) :: (f.pre ++ g.pre)
theorem size_pos (f : Fml) : 1 ≤ f.size := by cases f <;> simp [size]
end Fml
section
variable {n : Nat} {Q : R → List Slot → Prop} {X : Exn → List Slot → Prop}
theorem str_ne {a b : String} (h : (Str.ofString a == Str.ofString b) = false) : (Str.ofString a == Str.ofString b) = false := h
@[simp] theorem sNL : (Str.ofString "not" == Str.ofString "least") = false := by decide
@[simp] theorem sAL : (Str.ofString "and" == Str.ofString "least") = false := by decide
@[simp] theorem sOL : (Str.ofString "or" == Str.ofString "least") = false := by decide
@[simp] theorem sAN : (Str.ofString "and" == Str.ofString "not") = false := by decide
@[simp] theorem sON : (Str.ofString "or" == Str.ofString "not") = false := by decide
@[simp] theorem sOA : (Str.ofString "or" == Str.ofString "and") = false := by decide
@[simp] theorem sLN : (Str.ofString "least" == Str.ofString "not") = false := by decide
@[simp] theorem sLA : (Str.ofString "least" == Str.ofString "and") = false := by decide
@[simp] theorem sLO : (Str.ofString "least" == Str.ofString "or") = false := by decide
@[simp] theorem sNA : (Str.ofString "not" == Str.ofString "and") = false := by decide
@[simp] theorem sNO : (Str.ofString "not" == Str.ofString "or") = false := by decide
@[simp] theorem sAO : (Str.ofString "and" == Str.ofString "or") = false := by decide
theorem prof_at {prof : List Int} {i : Nat} (h : i < prof.length) : atI (prof.map PyData.int) (i : Int) = some (.int ((prof[i]?).getD 0)) := by
  rw [atI_lit _ _ (by simpa using h), List.getElem?_map, List.getElem?_eq_getElem h]
  rfl
theorem wp_holds (prof : List Int) : ∀ (f : Fml) (n : Nat), f.size ≤ n → f.wf prof.length → ∀ (Q : R → List Slot → Prop) (X : Exn → List Slot → Prop), Q (.st (.bool (f.hv prof))) [.u, .u] →
    CWp (callOut (callN L n) "holds" [.v f.toD, .v (.tuple (prof.map .int))]) Q X
  | .least i t, n, hn, hw, Q, X, hq => by
    refine wp_def L_holds (by have := Fml.size_pos (.least i t); omega) rfl rfl fun m hm => ?_
    unfold F_holds
    simp [Fml.toD, prof_at hw.1]
    simpa [Fml.hv] using hq
  | .not f, n, hn, hw, Q, X, hq => by
    simp only [Fml.size] at hn
    refine wp_def L_holds (by omega) rfl rfl fun m hm => ?_
    have hs : ((callN L m).fn "holds").isSome = true := fn_isSome' L_holds (by have := f.size_pos; omega)
    unfold F_holds
    simp [Fml.toD, Wp_bind]
    refine wp_callA hs ?_
    simp
    refine wp_holds prof f m (by omega) hw _ _ ?_
    simpa [Fml.hv] using hq
  | .and f g, n, hn, hw, Q, X, hq => by
    simp only [Fml.size] at hn
    have h1 := f.size_pos
    have h2 := g.size_pos
    refine wp_def L_holds (by omega) rfl rfl fun m hm => ?_
    have hs : ((callN L m).fn "holds").isSome = true := fn_isSome' L_holds (by omega)
    unfold F_holds
    simp [Fml.toD, Wp_bind]
    refine wp_callA hs ?_
    simp
    refine wp_holds prof f m (by omega) hw.1 _ _ ?_
    simp
    cases hf : f.hv prof with
    | false => simpa [Fml.hv, hf] using hq
    | true =>
      simp [Wp_bind]
      refine wp_callA hs ?_
      simp
      refine wp_holds prof g m (by omega) hw.2 _ _ ?_
      simpa [Fml.hv, hf] using hq
  | .or f g, n, hn, hw, Q, X, hq => by
    simp only [Fml.size] at hn
    have h1 := f.size_pos
    have h2 := g.size_pos
    refine wp_def L_holds (by omega) rfl rfl fun m hm => ?_
    have hs : ((callN L m).fn "holds").isSome = true := fn_isSome' L_holds (by omega)
    unfold F_holds
    simp [Fml.toD, Wp_bind]
    refine wp_callA hs ?_
    simp
    refine wp_holds prof f m (by omega) hw.1 _ _ ?_
    simp
    cases hf : f.hv prof with
    | true => simpa [Fml.hv, hf] using hq
    | false =>
      simp [Wp_bind]
      refine wp_callA hs ?_
      simp
      refine wp_holds prof g m (by omega) hw.2 _ _ ?_
      simpa [Fml.hv, hf] using hq
theorem wp_holds_in (f : Fml) (hn : f.size + 3 ≤ n) (cols : Nat) (T : List RowT) (hT : Tab cols T) (pats : List (List (Option Int))) (hp : ∀ p ∈ pats, p.length = cols) (hpl : pats.length ≤ 100) (ch : List Nat) (hch : ∀ r ∈ ch, r < T.length) (hcl : ch.length ≤ 1000) (hw : f.wf pats.length)
    (hq : Q (.st (.bool (f.hv (prof pats T ch)))) [.u, .u, .u]) : CWp (callOut (callN L n) "holds_in" [.v (.tuple [patsD pats, f.toD]), .v (rowsD T), .v (chD ch)]) Q X := by
  refine wp_def L_holds_in (by omega) rfl rfl fun m hm => ?_
  have hs : ((callN L m).fn "holds").isSome = true := fn_isSome' L_holds (by omega)
  have hs2 : ((callN L m).fn "profile_of").isSome = true := fn_isSome' L_profile_of (by omega)
  unfold F_holds_in
  simp [Wp_bind]
  refine wp_callA hs ?_
  simp [Wp_bind]
  refine wp_callA hs2 ?_
  simp
  refine wp_profile_of (by omega) cols T hT pats hp hpl ch hch hcl ?_
  simp
  refine wp_holds _ f m (by omega) (by unfold prof; rw [List.length_map]; exact hw) _ _ ?_
  simpa using hq
/-- the walk of the nodes -/
theorem trav_pre : ∀ (f : Fml) (n : Nat) (r : List D), f.size ≤ n → trav n (f.toD :: r) = f.pre ++ trav (n - f.size) r
  | .least i t, n + 1, r, h => by
    rw [show trav (n + 1) (Fml.toD (.least i t) :: r) = Fml.toD (.least i t) :: trav n (kids (Fml.toD (.least i t)) ++ r) from rfl]
    rw [show kids (Fml.toD (.least i t)) = [] by simp [kids, Fml.toD]]
    rfl
  | .not f, n + 1, r, h => by
    rw [show trav (n + 1) (Fml.toD (.not f) :: r) = Fml.toD (.not f) :: trav n (kids (Fml.toD (.not f)) ++ r) from rfl]
    rw [show kids (Fml.toD (.not f)) = [f.toD] by simp [kids, Fml.toD]]
    simp only [Fml.size] at h
    rw [show [f.toD] ++ r = f.toD :: r from rfl, trav_pre f n r (by omega)]
    simp only [Fml.pre, Fml.size, List.cons_append]
    rw [show n + 1 - (f.size + 1) = n - f.size by omega]
  | .and f g, n + 1, r, h => by
    rw [show trav (n + 1) (Fml.toD (.and f g) :: r) = Fml.toD (.and f g) :: trav n (kids (Fml.toD (.and f g)) ++ r) from rfl]
    rw [show kids (Fml.toD (.and f g)) = [f.toD, g.toD] by simp [kids, Fml.toD]]
    simp only [Fml.size] at h
    rw [show [f.toD, g.toD] ++ r = f.toD :: (g.toD :: r) from rfl, trav_pre f n _ (by omega), trav_pre g _ r (by omega)]
    simp only [Fml.pre, Fml.size, List.cons_append, List.append_assoc]
    rw [show n - f.size - g.size = n + 1 - (f.size + g.size + 1) by omega]
  | .or f g, n + 1, r, h => by
    rw [show trav (n + 1) (Fml.toD (.or f g) :: r) = Fml.toD (.or f g) :: trav n (kids (Fml.toD (.or f g)) ++ r) from rfl]
    rw [show kids (Fml.toD (.or f g)) = [f.toD, g.toD] by simp [kids, Fml.toD]]
    simp only [Fml.size] at h
    rw [show [f.toD, g.toD] ++ r = f.toD :: (g.toD :: r) from rfl, trav_pre f n _ (by omega), trav_pre g _ r (by omega)]
    simp only [Fml.pre, Fml.size, List.cons_append, List.append_assoc]
    rw [show n - f.size - g.size = n + 1 - (f.size + g.size + 1) by omega]
  | f, 0, r, h => by have := f.size_pos; omega
theorem Fml.sm : ∀ f : Fml, Sm f.toD
  | .least i t => .tup (by simp) (by simp; exact ⟨.str _, .int _, .int _⟩)
  | .not f => .tup (by simp) (by simp; exact ⟨.str _, f.sm⟩)
  | .and f g => .tup (by simp) (by simp; exact ⟨.str _, f.sm, g.sm⟩)
  | .or f g => .tup (by simp) (by simp; exact ⟨.str _, f.sm, g.sm⟩)
end
end LW
end

section
set_option autoImplicit false
set_option linter.all false
set_option maxRecDepth 100000
set_option maxHeartbeats 4000000
namespace LW
open PySem (Str PyData)
open MP
section
variable {n : Nat} {Q : R → List Slot → Prop} {X : Exn → List Slot → Prop}
def HB : Sts := match F__law_holds.body with
  | .cons _ (.cons (.for _ _ b) _) => b
  | _ => .nil
def bls (S : List Bool) : List D := S.map .bool
theorem cmp_ge_int (i j : Int) : cmp .ge (.int i) (.int j) = some (decide (j ≤ i)) := rfl
theorem bls_last (S : List Bool) (b : Bool) : (bls (S ++ [b])).getLast? = some (.bool b) := by simp [bls]
theorem bls_drop (S : List Bool) (b : Bool) : (bls (S ++ [b])).dropLast = bls S := by simp [bls]
theorem bls_last2 (S : List Bool) (a b : Bool) : (bls (S ++ [a, b])).getLast? = some (.bool b) := by
  rw [show S ++ [a, b] = (S ++ [a]) ++ [b] by simp]; exact bls_last _ _
theorem bls_drop2 (S : List Bool) (a b : Bool) : (bls (S ++ [a, b])).dropLast = bls (S ++ [a]) := by
  rw [show S ++ [a, b] = (S ++ [a]) ++ [b] by simp]; exact bls_drop _ _
theorem bls_app (S : List Bool) (b : Bool) : bls S ++ [.bool b] = bls (S ++ [b]) := by simp [bls]
theorem wp_run {m : Nat} {P : Flow → Env → Prop} {E : Exn → Env → Prop} (fd : D) (pf : List Int) : ∀ (f : Fml) (S : List Bool) (rest : List D) (s3 s4 s5 : Slot), f.wf pf.length → S.length + f.size ≤ 1000 →
    (∀ s3 s4 s5, Wp (forLoop (Tg.var 3).bind (execs (callN L m) [] HB) rest [.v fd, .b (.list (pf.map .int)), .ol (bls (S ++ [f.hv pf])), s3, s4, s5]) P E) →
    Wp (forLoop (Tg.var 3).bind (execs (callN L m) [] HB) (f.pre.reverse ++ rest) [.v fd, .b (.list (pf.map .int)), .ol (bls S), s3, s4, s5]) P E
  | .least i t, S, rest, s3, s4, s5, hw, hl, h => by
    simp only [Fml.size] at hl
    refine wp_for1 rfl ?_
    have hlen : (bls S).length < 16777216 := by simp [bls]; omega
    unfold HB F__law_holds
    simp [Fml.toD, prof_at hw.1, hlen]
    rw [bls_app]
    exact h _ _ _
  | .not f, S, rest, s3, s4, s5, hw, hl, h => by
    simp only [Fml.size] at hl
    rw [show (Fml.not f).pre.reverse ++ rest = f.pre.reverse ++ (Fml.toD (.not f) :: rest) by simp [Fml.pre]]
    refine wp_run fd pf f S _ s3 s4 s5 hw (by omega) fun s3 s4 s5 => ?_
    refine wp_for1 rfl ?_
    have hlen : (bls S).length < 16777216 := by simp [bls]; omega
    unfold HB F__law_holds
    simp [Fml.toD, bls_last, bls_drop, hlen]
    rw [bls_app]
    exact h _ _ _
  | .and f g, S, rest, s3, s4, s5, hw, hl, h => by
    simp only [Fml.size] at hl
    rw [show (Fml.and f g).pre.reverse ++ rest = g.pre.reverse ++ (f.pre.reverse ++ (Fml.toD (.and f g) :: rest)) by simp [Fml.pre]]
    refine wp_run fd pf g S _ s3 s4 s5 hw.2 (by omega) fun s3 s4 s5 => ?_
    refine wp_run fd pf f _ _ s3 s4 s5 hw.1 (by rw [List.length_append]; simp; have := g.size_pos; omega) fun s3 s4 s5 => ?_
    refine wp_for1 rfl ?_
    have hlen : (bls S).length < 16777216 := by simp [bls]; omega
    unfold HB F__law_holds
    simp [Fml.toD, bls_last, bls_drop, bls_last2, bls_drop2, hlen]
    have hh := h (.v (Fml.toD (.and f g))) (.v (.bool (f.hv pf))) (.v (.bool (g.hv pf)))
    simp only [Fml.hv] at hh
    cases hf : f.hv pf <;> rw [hf] at hh <;> simp [hlen, bls_app] <;> exact hh
  | .or f g, S, rest, s3, s4, s5, hw, hl, h => by
    simp only [Fml.size] at hl
    rw [show (Fml.or f g).pre.reverse ++ rest = g.pre.reverse ++ (f.pre.reverse ++ (Fml.toD (.or f g) :: rest)) by simp [Fml.pre]]
    refine wp_run fd pf g S _ s3 s4 s5 hw.2 (by omega) fun s3 s4 s5 => ?_
    refine wp_run fd pf f _ _ s3 s4 s5 hw.1 (by rw [List.length_append]; simp; have := g.size_pos; omega) fun s3 s4 s5 => ?_
    refine wp_for1 rfl ?_
    have hlen : (bls S).length < 16777216 := by simp [bls]; omega
    unfold HB F__law_holds
    simp [Fml.toD, bls_last, bls_drop, bls_last2, bls_drop2, hlen]
    have hh := h (.v (Fml.toD (.or f g))) (.v (.bool (f.hv pf))) (.v (.bool (g.hv pf)))
    simp only [Fml.hv] at hh
    cases hf : f.hv pf <;> rw [hf] at hh <;> simp [hlen, bls_app] <;> exact hh
theorem wp_law_holds (f : Fml) (hs : f.size ≤ 60) (hn : 2 ≤ n) (pf : List Int) (hw : f.wf pf.length) (hq : Q (.st (.bool (f.hv pf))) [.u, .u]) : CWp (callOut (callN L n) "_law_holds" [.v f.toD, .b (.list (pf.map .int))]) Q X := by
  refine wp_def L__law_holds (by omega) rfl rfl fun m hm => ?_
  have hs1 : ((callN L m).fn "_law_nodes").isSome = true := fn_isSome' L__law_nodes (by omega)
  unfold F__law_holds
  simp [Wp_bind]
  refine wp_callA hs1 ?_
  simp
  refine wp_law_nodes' (by omega) _ f.sm f.pre (by rw [trav_pre f 60 [] hs, trav_nil, List.append_nil]) ?_
  simp [Wp_bind]
  have := wp_run (m := m) (P := kk (kSs (callN L m) [] (.cons (.ret (.idx (.pk 2) (.lit (.int 0)))) .nil)) (kRet 2 [] Q) (kRetX 2 [] X)) (E := kRetX 2 [] X) f.toD pf f [] [] .u .u .u hw (by simp; omega) (fun s3 s4 s5 => by
    refine wp_for0 ?_
    simp [bls]
    exact hq)
  rw [List.append_nil] at this
  exact this
end
end LW
end

section
set_option autoImplicit false
set_option linter.all false
set_option maxRecDepth 100000
set_option maxHeartbeats 4000000
namespace LW
open PySem (Str PyData)
open MP
/-- the drawing's list -/
def DrL (ds : List D) : Prop := Dr (.ol ds)
section
variable {n : Nat} {Q : R → List Slot → Prop} {X : Exn → List Slot → Prop}
theorem wp_drawL (hn : 1 ≤ n) {ds : List D} {m : Int} (hs : DrL ds) (h1 : 0 < m) (h2 : m < 1073741824) (hq : ∀ ds' r, DrL ds' → 0 ≤ r → r < m → Q (.st (.int r)) [.ol ds', .u]) :
    CWp (callOut (callN L n) "_law_draw" [.ol ds, .v (.int m)]) Q X := by
  refine wp_draw hn hs h1 h2 fun s' r hs' h3 h4 => ?_
  obtain ⟨xs, i, b, c, rfl, hi⟩ := hs'
  exact hq _ r ⟨xs, i, b, c, rfl, hi⟩ h3 h4
theorem mem_atI {α : Type} {xs : List α} {i : Int} (h0 : 0 ≤ i) (h1 : i < xs.length) : ∃ x, atI xs i = some x ∧ x ∈ xs := by
  obtain ⟨k, rfl⟩ := Int.eq_ofNat_of_zero_le h0
  have hk : k < xs.length := by omega
  exact ⟨xs[k], by rw [atI_lit _ _ hk, List.getElem?_eq_getElem hk], List.getElem_mem hk⟩
theorem wp_pick (hn : 2 ≤ n) {ds : List D} (hs : DrL ds) (xs : List D) (h1 : xs ≠ []) (h2 : xs.length ≤ 1000) (hq : ∀ ds' x, DrL ds' → x ∈ xs → Q (.st x) [.ol ds', .u]) :
    CWp (callOut (callN L n) "_law_pick" [.ol ds, .v (.list xs)]) Q X := by
  refine wp_def L__law_pick (by omega) rfl rfl fun m hm => ?_
  have hs1 : ((callN L m).fn "_law_draw").isSome = true := fn_isSome' L__law_draw (by omega)
  have hl : 0 < xs.length := List.length_pos_iff.mpr h1
  unfold F__law_pick
  simp [Wp_bind]
  refine wp_callA hs1 ?_
  simp
  refine wp_drawL (by omega) hs (by omega) (by omega) fun ds' r hs' h3 h4 => ?_
  obtain ⟨x, hx, hm⟩ := mem_atI h3 h4
  simp [hx]
  exact hq ds' x hs' hm
theorem wp_pickB (hn : 2 ≤ n) {ds : List D} (hs : DrL ds) (xs : List D) (h1 : xs ≠ []) (h2 : xs.length ≤ 1000) (hi : ∀ x ∈ xs, immut x = true) (hq : ∀ ds' x, DrL ds' → x ∈ xs → Q (.st x) [.ol ds', .u]) :
    CWp (callOut (callN L n) "_law_pick" [.ol ds, .b (.list xs)]) Q X := by
  refine wp_def L__law_pick (by omega) rfl rfl fun m hm => ?_
  have hs1 : ((callN L m).fn "_law_draw").isSome = true := fn_isSome' L__law_draw (by omega)
  have hl : 0 < xs.length := List.length_pos_iff.mpr h1
  unfold F__law_pick
  simp [Wp_bind]
  refine wp_callA hs1 ?_
  simp
  refine wp_drawL (by omega) hs (by omega) (by omega) fun ds' r hs' h3 h4 => ?_
  obtain ⟨x, hx, hm⟩ := mem_atI h3 h4
  simp [hx, hi x hm]
  exact hq ds' x hs' hm
theorem wp_begin (hn : 1 ≤ n) (ns : List Int) (h63 : ns.length ≤ 63) (hq : ∀ ds, DrL ds → Q (.fr ds) [.u]) : CWp (callOut (callN L n) "_law_begin" [.b (.list (ns.map .int))]) Q X := by
  refine wp_def L__law_begin hn rfl rfl fun m hm => ?_
  unfold F__law_begin
  simp [Wp_bind]
  refine wp_ecomp rfl ?_
  have hw : walked (.bor (.list (ns.map PyData.int))) = some (ns.map .int) := walked_borL _ (by rw [List.all_map, List.all_eq_true]; intro x _; rfl)
  simp [hw]
  obtain ⟨J, hJ⟩ := opq fun (j : Nat) (acc : List D) (e : Env) => ∃ s1, e = [.b (.list (ns.map .int)), s1] ∧ acc = (ns.map .int).take j
  refine wp_comp J (by rw [hJ]; exact ⟨_, rfl, rfl⟩) ?_ ?_ ?_
  · rw [line_val]; simp; omega
  · intro j y acc e hy hi
    rw [hJ] at hi
    obtain ⟨s1, rfl, rfl⟩ := hi
    rw [List.getElem?_map] at hy
    obtain ⟨i, hi, rfl⟩ := Option.map_eq_some_iff.mp hy
    simp [-List.map_take]
    rw [map_take_succ ns PyData.int j _ hi, hJ]
    exact ⟨_, rfl, rfl⟩
  · intro acc e hi
    rw [hJ] at hi
    obtain ⟨s1, rfl, rfl⟩ := hi
    rw [List.take_length]
    simp
    exact hq _ ⟨ns, 0, 0, 17, rfl, by omega⟩
theorem wp_cells (hn : 2 ≤ n) {ds : List D} (hs : DrL ds) (cols : Nat) (hc : cols ≤ 1000) (vals : Int) (h1 : 0 < vals) (h2 : vals < 1073741824) (hq : ∀ ds' (cs : List Int), DrL ds' → cs.length = cols → Q (.st (.tuple (cs.map .int))) [.ol ds', .u, .u]) :
    CWp (callOut (callN L n) "_law_cells" [.ol ds, .v (.int cols), .v (.int vals)]) Q X := by
  refine wp_def L__law_cells (by omega) rfl rfl fun m hm => ?_
  have hs1 : ((callN L m).fn "_law_draw").isSome = true := fn_isSome' L__law_draw (by omega)
  have hsm : smallI (cols : Int) = true := smallI_nat _ (by omega)
  unfold F__law_cells
  simp [Wp_bind]
  refine wp_ecomp rfl ?_
  simp [hsm]
  obtain ⟨J, hJ⟩ := opq fun (j : Nat) (acc : List D) (e : Env) => ∃ (ds : List D) (s3 : Slot) (cs : List Int), DrL ds ∧ e = [.ol ds, .v (.int cols), .v (.int vals), s3] ∧ acc = cs.map .int ∧ cs.length = j
  refine wp_comp J (by rw [hJ]; exact ⟨_, _, [], hs, rfl, rfl, rfl⟩) ?_ ?_ ?_
  · rw [line_val, range0_len]; omega
  · intro j y acc e hy hi
    rw [hJ] at hi
    obtain ⟨ds, s3, cs, hd, rfl, rfl, hl⟩ := hi
    simp [Wp_bind]
    refine wp_callA hs1 ?_
    simp
    refine wp_drawL (by omega) hd h1 h2 fun ds' r hs' h3 h4 => ?_
    simp
    rw [hJ]
    exact ⟨_, _, cs ++ [r], hs', rfl, by simp, by simp [hl]⟩
  · intro acc e hi
    rw [hJ] at hi
    obtain ⟨ds, s3, cs, hd, rfl, rfl, hl⟩ := hi
    rw [range0_len] at hl
    simp
    exact hq _ cs hd hl
theorem wp_pattern (hn : 3 ≤ n) {ds : List D} (hs : DrL ds) (cols : Nat) (hc : cols ≤ 1000) (hq : ∀ ds' (p : List (Option Int)), DrL ds' → p.length = cols → Q (.st (.tuple (p.map optI))) [.ol ds', .u]) :
    CWp (callOut (callN L n) "_law_pattern" [.ol ds, .v (.int cols)]) Q X := by
  refine wp_def L__law_pattern (by omega) rfl rfl fun m hm => ?_
  have hs1 : ((callN L m).fn "_law_pick").isSome = true := fn_isSome' L__law_pick (by omega)
  have hsm : smallI (cols : Int) = true := smallI_nat _ (by omega)
  unfold F__law_pattern
  simp [Wp_bind]
  refine wp_ecomp rfl ?_
  simp [hsm]
  obtain ⟨J, hJ⟩ := opq fun (j : Nat) (acc : List D) (e : Env) => ∃ (ds : List D) (s2 : Slot) (p : List (Option Int)), DrL ds ∧ e = [.ol ds, .v (.int cols), s2] ∧ acc = p.map optI ∧ p.length = j
  refine wp_comp J (by rw [hJ]; exact ⟨_, _, [], hs, rfl, rfl, rfl⟩) ?_ ?_ ?_
  · rw [line_val, range0_len]; omega
  · intro j y acc e hy hi
    rw [hJ] at hi
    obtain ⟨ds, s2, p, hd, rfl, rfl, hl⟩ := hi
    simp [Wp_bind]
    refine wp_callA hs1 ?_
    simp
    refine wp_pick (by omega) hd _ (by simp) (by simp) fun ds' x hs' hx => ?_
    have ho : ∃ o, x = optI o := by
      simp only [List.mem_cons, List.not_mem_nil, or_false] at hx
      rcases hx with rfl | rfl | rfl | rfl | rfl | rfl
      · exact ⟨none, rfl⟩
      · exact ⟨some 0, rfl⟩
      · exact ⟨some 1, rfl⟩
      · exact ⟨some 2, rfl⟩
      · exact ⟨none, rfl⟩
      · exact ⟨some 999, rfl⟩
    obtain ⟨o, rfl⟩ := ho
    simp
    rw [hJ]
    exact ⟨_, _, p ++ [o], hs', rfl, by simp, by simp [hl]⟩
  · intro acc e hi
    rw [hJ] at hi
    obtain ⟨ds, s2, p, hd, rfl, rfl, hl⟩ := hi
    rw [range0_len] at hl
    simp
    exact hq _ p hd hl
end
end LW
end

section
set_option autoImplicit false
set_option linter.all false
set_option maxRecDepth 100000
set_option maxHeartbeats 4000000
namespace LW
open PySem (Str PyData)
open MP
section
variable {n : Nat} {Q : R → List Slot → Prop} {X : Exn → List Slot → Prop}
theorem wp_row (hn : 3 ≤ n) {ds : List D} (hs : DrL ds) (cols : Nat) (hc : cols ≤ 1000) (vals wts : Int) (h1 : 0 < vals) (h2 : vals < 1073741824) (h3 : 0 < wts) (h4 : wts < 1073741824)
    (hq : ∀ ds' (r : RowT), DrL ds' → r.2.2.2.length = cols → Q (.st (rowD r)) [.ol ds', .u, .u, .u]) : CWp (callOut (callN L n) "_law_row" [.ol ds, .v (.int cols), .v (.int vals), .v (.int wts)]) Q X := by
  refine wp_def L__law_row (by omega) rfl rfl fun m hm => ?_
  have hs1 : ((callN L m).fn "_law_draw").isSome = true := fn_isSome' L__law_draw (by omega)
  have hs2 : ((callN L m).fn "_law_cells").isSome = true := fn_isSome' L__law_cells (by omega)
  unfold F__law_row
  simp [Wp_bind]
  refine wp_callA hs1 ?_
  simp
  refine wp_drawL (by omega) hs (by omega) (by omega) fun ds a hs _ _ => ?_
  simp [Wp_bind]
  refine wp_callA hs1 ?_
  simp
  refine wp_drawL (by omega) hs (by omega) (by omega) fun ds b hs _ _ => ?_
  simp [Wp_bind]
  refine wp_callA hs1 ?_
  simp
  refine wp_drawL (by omega) hs h3 h4 fun ds c hs _ _ => ?_
  simp [Wp_bind]
  refine wp_callA hs2 ?_
  simp
  refine wp_cells (by omega) hs cols hc vals h1 h2 fun ds cs hs hl => ?_
  simp
  exact hq ds (a, b, 1 + c, cs) hs hl
theorem immut_row (r : RowT) : immut (rowD r) = true := by
  have : ∀ cs : List Int, immutAll (cs.map PyData.int) = true := fun cs => by
    induction cs with
    | nil => rfl
    | cons a l ih => simp [immutAll, immut, ih]
  simp [rowD, immut, immutAll, this]
theorem wp_table (hn : 4 ≤ n) {ds : List D} (hs : DrL ds) (cols : Nat) (hc0 : 0 < cols) (hc : cols ≤ 1000) (many : Nat) (hm8 : many ≤ 1000) (vals wts : Int) (h1 : 0 < vals) (h2 : vals < 1073741824) (h3 : 0 < wts) (h4 : wts < 1073741824)
    (hq : ∀ ds' (T : List RowT), DrL ds' → Tab cols T → T.length = many → Q (.st (rowsD T)) [.ol ds', .u, .u, .u, .u]) :
    CWp (callOut (callN L n) "_law_table" [.ol ds, .v (.int cols), .v (.int many), .v (.int vals), .v (.int wts)]) Q X := by
  refine wp_def L__law_table (by omega) rfl rfl fun m hm => ?_
  have hs1 : ((callN L m).fn "_law_draw").isSome = true := fn_isSome' L__law_draw (by omega)
  have hs2 : ((callN L m).fn "_law_row").isSome = true := fn_isSome' L__law_row (by omega)
  have hs3 : ((callN L m).fn "_law_pick").isSome = true := fn_isSome' L__law_pick (by omega)
  have hsm : smallI (many : Int) = true := smallI_nat _ (by omega)
  unfold F__law_table
  simp [Wp_bind, hsm]
  obtain ⟨I, hI⟩ := opq fun (k : Nat) (e : Env) => ∃ (ds : List D) (T : List RowT) (s6 s7 s8 : Slot), DrL ds ∧ e = [.ol ds, .v (.int cols), .v (.int many), .v (.int vals), .v (.int wts), .ol (T.map rowD), s6, s7, s8] ∧ (∀ r ∈ T, r.2.2.2.length = cols) ∧ T.length = k
  refine wp_for I (by rw [hI]; exact ⟨_, [], _, _, _, hs, rfl, fun _ z => (nomatch z), rfl⟩) ?_ ?_
  · intro k x e hx hi
    rw [hI] at hi
    obtain ⟨ds, T, s6, s7, s8, hd, rfl, hw, hl⟩ := hi
    have hk : k < many := by
      rw [range0_get] at hx
      split at hx
      · assumption
      · cases hx
    refine ⟨_, rfl, ?_⟩
    have fin : ∀ ds (r : RowT) s7 s8, DrL ds → r.2.2.2.length = cols → I (k + 1) [.ol ds, .v (.int cols), .v (.int many), .v (.int vals), .v (.int wts), .ol (T.map rowD ++ [rowD r]), .v x, s7, s8] := fun ds r s7 s8 hd hr => by
      rw [hI]
      refine ⟨ds, T ++ [r], .v x, s7, s8, hd, by simp, fun q hq => ?_, by simp [hl]⟩
      rcases List.mem_append.mp hq with z | z
      · exact hw q z
      · rw [List.mem_singleton] at z; subst z; exact hr
    have hTl : T.length < 16777216 := by omega
    simp [Wp_bind]
    refine wp_callA hs2 ?_
    simp
    refine wp_row (by omega) hd cols hc vals wts h1 h2 h3 h4 fun ds r hd hr => ?_
    simp
    cases hTe : T with
    | nil =>
      subst hTe
      simp
      exact fin ds r _ _ hd hr
    | cons r0 T' =>
      rw [← hTe]
      have hne : (T.map rowD).isEmpty = false := by rw [hTe]; rfl
      have hne' : T.isEmpty = false := by rw [hTe]; rfl
      simp [hne, hne', Wp_bind]
      refine wp_callA hs1 ?_
      simp
      refine wp_drawL (by omega) hd (by omega) (by omega) fun ds z hd _ _ => ?_
      simp
      cases hz : decide (z = 1) with
      | false =>
        simp [hTl]
        exact fin ds r _ _ hd hr
      | true =>
        simp [Wp_bind]
        refine wp_callA hs3 ?_
        simp
        refine wp_pickB (by omega) hd _ (by rw [hTe]; simp) (by rw [List.length_map]; omega) (fun x hx => ?_) fun ds y hd hy => ?_
        · obtain ⟨r1, _, rfl⟩ := List.mem_map.mp hx
          exact immut_row r1
        · obtain ⟨r1, hr1, rfl⟩ := List.mem_map.mp hy
          have hr1l := hw r1 hr1
          simp [rowD, Wp_bind]
          refine wp_callA hs1 ?_
          simp
          refine wp_drawL (by omega) hd h1 h2 fun ds v hd _ _ => ?_
          simp [Wp_bind]
          refine wp_callA hs1 ?_
          simp
          refine wp_drawL (by omega) hd (by omega) (by omega) fun ds c hd hc1 hc2 => ?_
          obtain ⟨j, rfl⟩ := Int.eq_ofNat_of_zero_le hc1
          have hix : ixN r1.2.2.2.length (j : Int) = some j := ixN_lit _ _ (by omega)
          simp [hix, hTl]
          have := fin ds (r.1, r.2.1, r.2.2.1, r1.2.2.2.set j v) (.v (rowD (r.1, r.2.1, r.2.2.1, r1.2.2.2.set j v))) (.ol ((r1.2.2.2.map .int).set j (.int v))) hd (by simp [hr1l])
          simpa [rowD, List.map_set] using this
  · intro e hi
    rw [hI] at hi
    obtain ⟨ds, T, s6, s7, s8, hd, rfl, hw, hl⟩ := hi
    rw [range0_len] at hl
    simp
    exact hq ds T hd ⟨hw, hc⟩ hl
end
end LW
end

section
set_option autoImplicit false
set_option linter.all false
set_option maxRecDepth 100000
set_option maxHeartbeats 4000000
namespace LW
open PySem (Str PyData)
open MP
section
variable {n : Nat} {Q : R → List Slot → Prop} {X : Exn → List Slot → Prop}
def fls (fs : List Fml) : List D := fs.map Fml.toD
def tot (fs : List Fml) : Nat := (fs.map Fml.size).sum
theorem fls_last (l : List Fml) (f : Fml) : (fls (l ++ [f])).getLast? = some f.toD := by simp [fls]
theorem fls_drop (l : List Fml) (f : Fml) : (fls (l ++ [f])).dropLast = fls l := by simp [fls]
theorem fls_app (l : List Fml) (f : Fml) : fls l ++ [f.toD] = fls (l ++ [f]) := by simp [fls]
theorem fls_emp (l : List Fml) (f : Fml) : (fls (l ++ [f])).isEmpty = false := by
  unfold fls
  cases l <;> rfl
theorem tot_app (l : List Fml) (f : Fml) : tot (l ++ [f]) = tot l + f.size := by simp [tot]
theorem tot_len : ∀ (l : List Fml), l.length ≤ tot l
  | [] => Nat.le_refl _
  | f :: l => by
    have := tot_len l
    have h2 := f.size_pos
    simp only [tot, List.map_cons, List.sum_cons, List.length_cons] at *
    omega
theorem fls_len (l : List Fml) : (fls l).length = l.length := by simp [fls]
theorem concat_cases {α : Type} (l : List α) : l = [] ∨ ∃ l' x, l = l' ++ [x] := by
  rcases List.eq_nil_or_concat l with h | ⟨l', x, h⟩
  · exact .inl h
  · exact .inr ⟨l', x, by rw [h]; simp⟩
theorem wp_formula (hn : 2 ≤ n) {ds : List D} (hs : DrL ds) (many : Nat) (hm1 : 1 ≤ many) (hm2 : many ≤ 1000) (nodes : Nat) (hn1 : 1 ≤ nodes) (hn2 : nodes ≤ 6) (hq : ∀ ds' (f : Fml), DrL ds' → f.wf many → f.size ≤ 12 → Q (.st f.toD) [.ol ds', .u, .u]) :
    CWp (callOut (callN L n) "_law_formula" [.ol ds, .v (.int many), .v (.int nodes)]) Q X := by
  refine wp_def L__law_formula (by omega) rfl rfl fun m hm => ?_
  have hs1 : ((callN L m).fn "_law_draw").isSome = true := fn_isSome' L__law_draw (by omega)
  have hsm : smallI (nodes : Int) = true := smallI_nat _ (by omega)
  unfold F__law_formula
  simp [Wp_bind, hsm]
  obtain ⟨I, hI⟩ := opq fun (k : Nat) (e : Env) => ∃ (ds : List D) (fs : List Fml) (s4 s5 s6 : Slot), DrL ds ∧ e = [.ol ds, .v (.int many), .v (.int nodes), .ol (fls fs), s4, s5, s6] ∧ (∀ f ∈ fs, f.wf many) ∧ tot fs = k
  refine wp_for I (by rw [hI]; exact ⟨_, [], _, _, _, hs, rfl, fun _ z => (nomatch z), rfl⟩) ?_ ?_
  · intro k x e hx hi
    rw [hI] at hi
    obtain ⟨ds, fs, s4, s5, s6, hd, rfl, hw, ht⟩ := hi
    have hk : k < nodes := by
      rw [range0_get] at hx
      split at hx
      · assumption
      · cases hx
    have hfl := tot_len fs
    refine ⟨_, rfl, ?_⟩
    simp [Wp_bind]
    refine wp_callA hs1 ?_
    simp
    refine wp_drawL (by omega) hd (by omega) (by omega) fun ds way hd _ _ => ?_
    simp
    have hcase : (way = 1 ∧ ∃ l f, fs = l ++ [f]) ∨ (1 < way ∧ ∃ l g f, fs = l ++ [g] ++ [f]) ∨ (way = 1 ∧ fs = []) ∨ (way < 1) ∨ (1 < way ∧ fs.length ≤ 1) := by
      rcases concat_cases fs with h | ⟨l, f, h⟩
      · subst h
        by_cases h1 : way = 1
        · exact .inr (.inr (.inl ⟨h1, rfl⟩))
        · by_cases h2 : way < 1
          · exact .inr (.inr (.inr (.inl h2)))
          · exact .inr (.inr (.inr (.inr ⟨by omega, by simp⟩)))
      · by_cases h1 : way = 1
        · exact .inl ⟨h1, l, f, h⟩
        · by_cases h2 : way < 1
          · exact .inr (.inr (.inr (.inl h2)))
          · rcases concat_cases l with h3 | ⟨l', g, h3⟩
            · subst h3
              exact .inr (.inr (.inr (.inr ⟨by omega, by rw [h]; simp⟩)))
            · exact .inr (.inl ⟨by omega, l', g, f, by rw [h, h3]⟩)
    have hlt : (fls fs).length < 16777216 := by rw [fls_len]; omega
    rcases hcase with ⟨h1, l, f, h⟩ | ⟨h1, l, g, f, h⟩ | h1
    · subst h1 h
      have hl' : (fls l).length < 16777216 := by rw [fls_len]; rw [List.length_append] at hfl; omega
      have htl := tot_app l f
      simp [fls_emp, fls_last, fls_drop, hl']
      rw [hI]
      refine ⟨ds, l ++ [.not f], .v x, s5, .v (.int 1), hd, ?_, fun q hq => ?_, ?_⟩
      · rw [← fls_app]; simp [Fml.toD]
      · rcases List.mem_append.mp hq with z | z
        · exact hw q (List.mem_append_left _ z)
        · rw [List.mem_singleton] at z; subst z
          exact hw f (by simp)
      · rw [tot_app]; simp only [Fml.size]; omega
    · subst h
      have hl' : (fls l).length < 16777216 := by rw [fls_len]; rw [List.length_append, List.length_append] at hfl; omega
      have htl := tot_app (l ++ [g]) f
      have htl2 := tot_app l g
      have hne : decide (way = 1) = false := decide_eq_false (by omega)
      have hgt : decide (1 < way) = true := decide_eq_true h1
      have hlen : decide ((1 : Int) < ((fls (l ++ [g] ++ [f])).length : Int)) = true := decide_eq_true (by rw [fls_len]; simp; omega)
      have hwg := hw g (by simp)
      have hwf := hw f (by simp)
      cases h2 : decide (way = 2) with
      | true =>
        simp [hne, hgt, hlen, fls_last, fls_drop, hl', h2, -List.append_assoc]
        rw [hI]
        refine ⟨ds, l ++ [.and f g], .v x, s5, .v (.int way), hd, ?_, fun q hq => ?_, ?_⟩
        · rw [← fls_app]; simp [Fml.toD]
        · rcases List.mem_append.mp hq with z | z
          · exact hw q (by simp [z])
          · rw [List.mem_singleton] at z; subst z
            exact ⟨hwf, hwg⟩
        · rw [tot_app]; simp only [Fml.size]; omega
      | false =>
        simp [hne, hgt, hlen, fls_last, fls_drop, hl', h2, -List.append_assoc]
        rw [hI]
        refine ⟨ds, l ++ [.or f g], .v x, s5, .v (.int way), hd, ?_, fun q hq => ?_, ?_⟩
        · rw [← fls_app]; simp [Fml.toD]
        · rcases List.mem_append.mp hq with z | z
          · exact hw q (by simp [z])
          · rw [List.mem_singleton] at z; subst z
            exact ⟨hwf, hwg⟩
        · rw [tot_app]; simp only [Fml.size]; omega
    · have fin : ∀ ds (i t : Nat) s5 s6, DrL ds → i < many → t < 3 → I (k + 1) [.ol ds, .v (.int many), .v (.int nodes), .ol (fls fs ++ [.tuple [.str (Str.ofString "least"), .int i, .int (1 + (t : Int))]]), .v x, s5, s6] := fun ds i t s5 s6 hd hi ht' => by
        rw [hI]
        refine ⟨ds, fs ++ [.least i (1 + t)], .v x, s5, s6, hd, ?_, fun f hf => ?_, by rw [tot_app, ht]; rfl⟩
        · rw [← fls_app]; simp [Fml.toD]
        · rcases List.mem_append.mp hf with z | z
          · exact hw f z
          · rw [List.mem_singleton] at z; subst z
            exact ⟨by omega, by omega, by omega⟩
      rcases h1 with ⟨rfl, rfl⟩ | h1 | ⟨h1, h2⟩
      · have e0 : (fls []).isEmpty = true := rfl
        simp [e0, Wp_bind]
        refine wp_callA hs1 ?_
        simp
        refine wp_drawL (by omega) hd (by omega) (by omega) fun ds i hd hi1 hi2 => ?_
        simp [Wp_bind]
        refine wp_callA hs1 ?_
        simp
        refine wp_drawL (by omega) hd (by omega) (by omega) fun ds t hd ht1 ht2 => ?_
        obtain ⟨i, rfl⟩ := Int.eq_ofNat_of_zero_le hi1
        obtain ⟨t, rfl⟩ := Int.eq_ofNat_of_zero_le ht1
        simp [hlt]
        exact fin ds i t _ _ hd (by omega) (by omega)
      · have hne : decide (way = 1) = false := decide_eq_false (by omega)
        have hgt : decide (1 < way) = false := decide_eq_false (by omega)
        simp [hne, hgt, Wp_bind]
        refine wp_callA hs1 ?_
        simp
        refine wp_drawL (by omega) hd (by omega) (by omega) fun ds i hd hi1 hi2 => ?_
        simp [Wp_bind]
        refine wp_callA hs1 ?_
        simp
        refine wp_drawL (by omega) hd (by omega) (by omega) fun ds t hd ht1 ht2 => ?_
        obtain ⟨i, rfl⟩ := Int.eq_ofNat_of_zero_le hi1
        obtain ⟨t, rfl⟩ := Int.eq_ofNat_of_zero_le ht1
        simp [hlt]
        exact fin ds i t _ _ hd (by omega) (by omega)
      · have hne : decide (way = 1) = false := decide_eq_false (by omega)
        have hgt : decide (1 < way) = true := decide_eq_true h1
        have hlen : decide ((1 : Int) < ((fls fs).length : Int)) = false := decide_eq_false (by rw [fls_len]; omega)
        simp [hne, hgt, hlen, Wp_bind]
        refine wp_callA hs1 ?_
        simp
        refine wp_drawL (by omega) hd (by omega) (by omega) fun ds i hd hi1 hi2 => ?_
        simp [Wp_bind]
        refine wp_callA hs1 ?_
        simp
        refine wp_drawL (by omega) hd (by omega) (by omega) fun ds t hd ht1 ht2 => ?_
        obtain ⟨i, rfl⟩ := Int.eq_ofNat_of_zero_le hi1
        obtain ⟨t, rfl⟩ := Int.eq_ofNat_of_zero_le ht1
        simp [hlt]
        exact fin ds i t _ _ hd (by omega) (by omega)
  · intro e hi
    rw [hI] at hi
    obtain ⟨ds, fs, s4, s5, s6, hd, rfl, hw, ht⟩ := hi
    rw [range0_len] at ht
    have hfl := tot_len fs
    rcases concat_cases fs with h | ⟨l, f, h⟩
    · subst h
      simp [tot] at ht
      omega
    · subst h
      have htl := tot_app l f
      rw [List.length_append] at hfl
      have hsl : smallI ((fls l).length : Int) = true := smallI_nat _ (by rw [fls_len]; omega)
      simp [fls_last, fls_drop, hsl, Wp_bind]
      obtain ⟨J, hJ⟩ := opq fun (k : Nat) (e : Env) => ∃ (fs : List Fml) (f : Fml) (s4 : Slot), e = [.ol ds, .v (.int many), .v (.int nodes), .ol (fls fs), s4, .v f.toD, s6] ∧ (∀ g ∈ fs, g.wf many) ∧ f.wf many ∧ fs.length + k = l.length ∧ tot fs + f.size + fs.length = nodes + l.length
      refine wp_for J (by rw [hJ]; exact ⟨l, f, _, rfl, fun g hg => hw g (by simp [hg]), hw f (by simp), rfl, by omega⟩) ?_ ?_
      · intro k x e hx hi
        rw [hJ] at hi
        obtain ⟨fs, f', s4, rfl, hw1, hw2, hl1, ht1⟩ := hi
        have hk : k < (fls l).length := by
          rw [range0_get] at hx
          split at hx
          · assumption
          · cases hx
        rw [fls_len] at hk
        refine ⟨_, rfl, ?_⟩
        rcases concat_cases fs with h | ⟨l2, g, h⟩
        · subst h; simp at hl1; omega
        · subst h
          have h3 := tot_app l2 g
          simp at hl1 ht1
          simp [fls_last, fls_drop]
          rw [hJ]
          refine ⟨l2, .or g f', _, rfl, fun q hq => hw1 q (by simp [hq]), ⟨hw1 g (by simp), hw2⟩, by omega, ?_⟩
          simp only [Fml.size]
          omega
      · intro e hi
        rw [hJ] at hi
        obtain ⟨fs, f', s4, rfl, hw1, hw2, hl1, ht1⟩ := hi
        rw [range0_len, fls_len] at hl1
        have : fs = [] := List.eq_nil_of_length_eq_zero (by omega)
        subst this
        simp
        refine hq ds f' hd hw2 ?_
        simp [tot] at ht1
        omega
end
end LW
end

section
set_option autoImplicit false
set_option linter.all false
set_option maxRecDepth 100000
set_option maxHeartbeats 4000000
namespace LW
open PySem (Str PyData)
open MP
section
variable {n : Nat} {Q : R → List Slot → Prop} {X : Exn → List Slot → Prop}
theorem sm_tup {xs : List D} : Sm (.tuple xs) ↔ xs.length ≤ 100 ∧ ∀ x ∈ xs, Sm x := ⟨fun h => by cases h with | tup a b => exact ⟨a, b⟩, fun h => .tup h.1 h.2⟩
theorem sm_lst {xs : List D} : Sm (.list xs) ↔ xs.length ≤ 100 ∧ ∀ x ∈ xs, Sm x := ⟨fun h => by cases h with | lst a b => exact ⟨a, b⟩, fun h => .lst h.1 h.2⟩
theorem sm_int (i : Int) : Sm (.int i) ↔ True := ⟨fun _ => trivial, fun _ => .int i⟩
theorem sm_str (i : Str) : Sm (.str i) ↔ True := ⟨fun _ => trivial, fun _ => .str i⟩
theorem sm_bool (i : Bool) : Sm (.bool i) ↔ True := ⟨fun _ => trivial, fun _ => .bool i⟩
theorem sm_none : Sm .none ↔ True := ⟨fun _ => trivial, fun _ => .none⟩
theorem sm_optI (o : Option Int) : Sm (optI o) := by cases o <;> constructor
@[simp] theorem cut_last (xs : List D) : sliceOf (.st (.tuple xs)) none (some (-1)) = some (.st (.tuple xs.dropLast)) := by
  unfold sliceOf cut sIx
  simp
  rw [List.dropLast_eq_take]
  congr 1
  omega
theorem bt {xs ys : List D} (h : xs.length + ys.length ≤ 1000) : bin .add (.tuple xs) (.tuple ys) = some (.st (.tuple (xs ++ ys))) := by
  show (if _ then _ else none) = _
  rw [if_pos (by rw [line_val]; omega)]
theorem bm (x : D) {c : Nat} (h1 : 1 ≤ c) (h2 : c ≤ 1000) : bin .mul (.tuple [x]) (.int c) = some (.st (.tuple (List.replicate c x))) := by
  show (if _ then _ else none) = _
  rw [if_pos ⟨by simp, by omega, by omega, by simp⟩]
  have : ∀ c : Nat, (List.replicate c [x]).flatten = List.replicate c x := fun c => by
    induction c with
    | zero => rfl
    | succ c ih => rw [List.replicate_succ, List.flatten_cons, ih]; rfl
  rw [Int.toNat_natCast, this]
theorem mem_dropLast {x : D} {xs : List D} (h : x ∈ xs.dropLast) : x ∈ xs := List.dropLast_subset xs h
theorem wp_wrong (hn : 3 ≤ n) {ds : List D} (hs : DrL ds) (cols : Nat) (hc1 : 1 ≤ cols) (hc4 : cols ≤ 4) (pats : List (List (Option Int))) (hp1 : 1 ≤ pats.length) (hp3 : pats.length ≤ 3) (hp : ∀ p ∈ pats, p.length = cols) (f : Fml)
    (hq : ∀ ds' q, DrL ds' → Thing q → Q (.st q) [.ol ds', .u, .u]) : CWp (callOut (callN L n) "_law_wrong" [.ol ds, .v (.int cols), .v (.tuple [patsD pats, f.toD])]) Q X := by
  refine wp_def L__law_wrong (by omega) rfl rfl fun m hm => ?_
  have hs1 : ((callN L m).fn "_law_pick").isSome = true := fn_isSome' L__law_pick (by omega)
  unfold F__law_wrong
  simp [Wp_bind, patsD]
  refine wp_callA hs1 ?_
  simp
  refine wp_pick (by omega) hs _ (by simp) (by simp) fun ds bad hd hbad => ?_
  have hbad' : Sm bad := by
    simp only [List.mem_cons, List.not_mem_nil, or_false] at hbad
    rcases hbad with rfl | rfl | rfl | rfl | rfl | rfl | rfl | rfl | rfl | rfl | rfl | rfl | rfl | rfl <;> simp [sm_tup, sm_lst, sm_int, sm_str, sm_bool, sm_none]
  clear hbad
  simp [Wp_bind]
  refine wp_callA hs1 ?_
  simp
  refine wp_pick (by omega) hd _ (by simp) (by simp) fun ds k hd hk => ?_
  have hk' : ∃ k' : Nat, k = .int k' ∧ k' ≤ 13 := by
    simp only [List.mem_cons, List.not_mem_nil, or_false] at hk
    rcases hk with rfl | rfl | rfl
    · exact ⟨11, rfl, by omega⟩
    · exact ⟨12, rfl, by omega⟩
    · exact ⟨13, rfl, by omega⟩
  obtain ⟨k', rfl, hk13⟩ := hk'
  clear hk
  have hsm : smallI (k' : Int) = true := smallI_nat _ (by omega)
  simp [hsm]
  have hfS : Sm f.toD := f.sm
  obtain ⟨p0, ps, rfl⟩ : ∃ p0 ps, pats = p0 :: ps := by
    cases pats with
    | nil => simp at hp1
    | cons a l => exact ⟨a, l, rfl⟩
  have hPS : ∀ x ∈ (p0 :: ps).map (fun p => (PyData.tuple (p.map optI) : D)), Sm x := fun x hx => by
    obtain ⟨p, hpm, rfl⟩ := List.mem_map.mp hx
    refine sm_tup.mpr ⟨by rw [List.length_map, hp p hpm]; omega, fun y hy => ?_⟩
    obtain ⟨o, _, rfl⟩ := List.mem_map.mp hy
    exact sm_optI o
  have hPl : ((p0 :: ps).map (fun p => (PyData.tuple (p.map optI) : D))).length ≤ 3 := by rw [List.length_map]; exact hp3
  have hP0 : ((p0 :: ps).map (fun p => (PyData.tuple (p.map optI) : D)))[0]? = some (.tuple (p0.map optI)) := rfl
  have h0l : (p0.map optI).length = cols := by rw [List.length_map]; exact hp p0 List.mem_cons_self
  have h0S : ∀ x ∈ p0.map optI, Sm x := fun x hx => by
    obtain ⟨o, _, rfl⟩ := List.mem_map.mp hx
    exact sm_optI o
  revert hPS hPl hP0 h0l h0S
  generalize ((p0 :: ps).map (fun p => (PyData.tuple (p.map optI) : D))) = P
  generalize p0.map optI = p0d
  generalize f.toD = fd at hfS
  intro hPS hPl hP0 h0l h0S
  obtain ⟨I, hI⟩ := opq fun (k : Nat) (e : Env) => ∃ (long : D) (s8 : Slot), Sm long ∧ e = [.ol ds, .v (.int cols), .v (.tuple [.tuple P, fd]), .v (.tuple P), .v fd, .v (.tuple [.str (Str.ofString "least"), .int 0, .int 1]), .v bad, .v long, s8, .u]
  refine wp_for I (by rw [hI]; exact ⟨_, _, by simp [sm_tup, sm_lst, sm_int, sm_str, sm_bool, sm_none], rfl⟩) ?_ ?_
  · intro k x e hx hi
    rw [hI] at hi
    obtain ⟨long, s8, hl, rfl⟩ := hi
    refine ⟨_, rfl, ?_⟩
    simp
    rw [hI]
    exact ⟨_, _, by simp [sm_tup, sm_lst, sm_int, sm_str, sm_bool, sm_none, hl], rfl⟩
  · intro e hi
    rw [hI] at hi
    obtain ⟨long, s8, hl, rfl⟩ := hi
    have hat : atI P 0 = some (.tuple p0d) := by
      rw [show (0 : Int) = ((0 : Nat) : Int) from rfl, atI_lit _ _ (by
        cases P with
        | nil => simp at hP0
        | cons a l => simp), hP0]
    have hdl : P.dropLast.length ≤ 3 := by rw [List.length_dropLast]; omega
    simp [hat, bt (xs := p0d) (ys := [.none]) (by simp [h0l]; omega)]
    simp [Wp_bind]
    refine wp_callA hs1 ?_
    have e1 : bin .add (.tuple P) (.tuple P) = some (.st (.tuple (P ++ P))) := bt (by omega)
    have e2 : bin .add (.tuple (P ++ P)) (.tuple P) = some (.st (.tuple (P ++ P ++ P))) := bt (by rw [List.length_append]; omega)
    have e3 : bin .add (.tuple (P ++ P ++ P)) (.tuple P) = some (.st (.tuple (P ++ P ++ P ++ P))) := bt (by rw [List.length_append, List.length_append]; omega)
    have e4 : ∀ x : D, bin .add (.tuple P.dropLast) (.tuple [x]) = some (.st (.tuple (P.dropLast ++ [x]))) := fun x => bt (by simp; omega)
    have hPl2 : P.length < 16777216 := by omega
    have hl0 : p0d.length < 16777216 := by omega
    simp [e1, e2, e3, e4, bm _ hc1 (by omega : cols ≤ 1000), hPl2, hl0, hat, -List.append_assoc]
    refine wp_pick (by omega) hd _ (by simp) (by simp) fun ds' q hd' hqm => ?_
    suffices hsq : Sm q by
      simp
      exact hq ds' q hd' hsq
    have hPS' : Sm (.tuple P) := sm_tup.mpr ⟨by omega, hPS⟩
    have hDS : ∀ x ∈ P.dropLast, Sm x := fun x hx => hPS x (mem_dropLast hx)
    clear e1 e2 e3 e4 hat hq
    simp only [List.mem_cons, List.not_mem_nil, or_false] at hqm
    have r1 : ∀ a : D, Sm a → Sm (.tuple [a, fd]) := fun a ha => by simp [sm_tup, ha, hfS]
    have r2 : ∀ a : D, Sm a → Sm (.tuple [.tuple P, a]) := fun a ha => by
      refine sm_tup.mpr ⟨by simp, fun x hx => ?_⟩
      simp only [List.mem_cons, List.not_mem_nil, or_false] at hx
      rcases hx with rfl | rfl
      · exact hPS'
      · exact ha
    have r3 : ∀ a : D, Sm a → Sm (.tuple (P.dropLast ++ [a])) := fun a ha => by
      refine sm_tup.mpr ⟨by simp; omega, fun x hx => ?_⟩
      rcases List.mem_append.mp hx with z | z
      · exact hDS x z
      · rw [List.mem_singleton] at z; rw [z]; exact ha
    rcases hqm with rfl | rfl | rfl | rfl | rfl | rfl | rfl | rfl | rfl | rfl | rfl | rfl | rfl | rfl | rfl | rfl
    · exact sm_tup.mpr ⟨by simp, fun x hx => by rw [List.mem_singleton] at hx; rw [hx]; exact hPS'⟩
    · exact .none
    · exact r1 _ (by simp [sm_tup])
    · refine r1 _ (sm_tup.mpr ⟨by simp; omega, fun x hx => ?_⟩)
      simp only [List.mem_append] at hx
      exact hPS x (by rcases hx with ((z | z) | z) | z <;> exact z)
    · exact r1 _ (sm_lst.mpr ⟨by omega, hPS⟩)
    · refine r1 _ (r3 _ (sm_tup.mpr ⟨by simp; omega, fun x hx => ?_⟩))
      rcases List.mem_append.mp hx with z | z
      · exact h0S x z
      · rw [List.mem_singleton] at z; rw [z]; exact .none
    · refine r1 _ (r3 _ (sm_tup.mpr ⟨by simp; omega, fun x hx => ?_⟩))
      rw [List.eq_of_mem_replicate hx]; exact .int _
    · refine r1 _ (r3 _ (sm_tup.mpr ⟨by simp; omega, fun x hx => ?_⟩))
      rw [List.eq_of_mem_replicate hx]; exact .bool _
    · exact r1 _ (r3 _ .none)
    · exact r2 _ hbad'
    · exact r2 _ (by simp [sm_tup, sm_str, hfS, hbad'])
    · exact r2 _ (by simp [sm_tup, sm_str, hfS, hbad'])
    · exact r2 _ hl
    · exact r2 _ (by simp [sm_tup, sm_str, hl, hbad'])
    · refine r1 _ (sm_tup.mpr ⟨by simp, fun x hx => ?_⟩)
      rw [List.mem_singleton] at hx; rw [hx]
      exact sm_lst.mpr ⟨by omega, h0S⟩
    · refine sm_tup.mpr ⟨by simp, fun x hx => ?_⟩
      simp only [List.mem_cons, List.not_mem_nil, or_false] at hx
      rcases hx with rfl | rfl | rfl
      · exact hPS'
      · exact hfS
      · exact .int _
end
end LW
end

section
set_option autoImplicit false
set_option linter.all false
set_option maxRecDepth 100000
set_option maxHeartbeats 4000000
namespace LW
open PySem (Str PyData)
open MP
section
variable {n : Nat} {Q : R → List Slot → Prop} {X : Exn → List Slot → Prop}
theorem wp_law_plain (hn : 2 ≤ n) (ns : List Int) (hl : ns.length ≤ 1000) (hq : Q (.st (.bool true)) [.u]) : CWp (callOut (callN L n) "_law_plain" [.v (.tuple (ns.map .int))]) Q X := by
  refine wp_def L__law_plain (by omega) rfl rfl fun m hm => ?_
  have hs1 : ((callN L m).fn "_law_is_int").isSome = true := fn_isSome' L__law_is_int (by omega)
  unfold F__law_plain
  simp [Wp_bind]
  obtain ⟨I, hI⟩ := opq fun (k : Nat) (e : Env) => ∃ (ws : List D) (s2 s3 : Slot), e = [.v (.tuple (ns.map .int)), .ol ws, s2, s3] ∧ ((k = 0 ∧ ws = [.tuple (ns.map .int)]) ∨ ∃ ms : List Int, ws = ms.map .int ∧ k + ms.length = ns.length + 1)
  refine wp_for I (by rw [hI]; exact ⟨_, _, _, rfl, .inl ⟨rfl, rfl⟩⟩) ?_ ?_
  · intro k x e hx hi
    rw [hI] at hi
    obtain ⟨ws, s2, s3, rfl, h⟩ := hi
    refine ⟨_, rfl, ?_⟩
    rcases h with ⟨rfl, rfl⟩ | ⟨ms, rfl, hk⟩
    · have : ns.length ≤ 16777216 := by omega
      simp [this]
      rw [hI]
      exact ⟨_, _, _, rfl, .inr ⟨ns, rfl, by omega⟩⟩
    · rcases concat_cases ms with h | ⟨l, i, h⟩
      · subst h
        simp
        exact hq
      · subst h
        have e0 : ((l ++ [i]).map PyData.int).isEmpty = false := by cases l <;> rfl
        have e1 : ((l ++ [i]).map PyData.int).getLast? = some (.int i) := by simp
        have e2 : ((l ++ [i]).map PyData.int).dropLast = l.map .int := by simp
        have hl2 : l.length < 16777216 := by simp at hk; omega
        simp only [List.length_append, List.length_singleton] at hk
        generalize hz : (l ++ [i]).map PyData.int = z at e0 e1 e2
        simp [e0, e1, e2, Wp_bind]
        refine wp_callA hs1 ?_
        simp
        refine wp_law_is_int (by omega) _ ?_
        simp [isIntD]
        rw [hI]
        exact ⟨_, _, _, rfl, .inr ⟨l, rfl, by omega⟩⟩
  · intro e hi
    rw [hI] at hi
    obtain ⟨ws, s2, s3, rfl, h⟩ := hi
    rw [show (20000 : Int) = ((20000 : Nat) : Int) from rfl, range0_len] at h
    rcases h with ⟨h, _⟩ | ⟨ms, _, hk⟩
    · exact absurd h (by decide)
    · exfalso
      omega
end
end LW
end

section
set_option autoImplicit false
set_option linter.all false
set_option maxRecDepth 100000
set_option maxHeartbeats 4000000
namespace LW
open PySem (Str PyData)
open MP
section
variable {n : Nat} {X : Exn → List Slot → Prop}
theorem sm_pats {cols : Nat} (hc : cols ≤ 4) {pats : List (List (Option Int))} (hp3 : pats.length ≤ 3) (hp : ∀ p ∈ pats, p.length = cols) (f : Fml) : Thing (.tuple [.tuple (pats.map fun p => (PyData.tuple (p.map optI) : D)), f.toD]) := by
  refine sm_tup.mpr ⟨by simp, fun x hx => ?_⟩
  simp only [List.mem_cons, List.not_mem_nil, or_false] at hx
  rcases hx with rfl | rfl
  · refine sm_tup.mpr ⟨by rw [List.length_map]; omega, fun x hx => ?_⟩
    obtain ⟨p, hpm, rfl⟩ := List.mem_map.mp hx
    refine sm_tup.mpr ⟨by rw [List.length_map, hp p hpm]; omega, fun y hy => ?_⟩
    obtain ⟨o, _, rfl⟩ := List.mem_map.mp hy
    exact sm_optI o
  · exact f.sm
theorem eqv_ii (a b : Int) : PyData.eqv (.int a) (.int b) = (a == b) := by unfold PyData.eqv; rfl
theorem dep_ints : ∀ xs : List Int, PyData.depthAll (xs.map PyData.int) = 0
  | [] => rfl
  | x :: xs => by
    rw [List.map_cons]
    unfold PyData.depthAll
    rw [dep_ints xs]
    rfl
theorem eqvAll_ints : ∀ xs : List Int, PyData.eqvAll (xs.map PyData.int) (xs.map PyData.int) = true
  | [] => by unfold PyData.eqvAll; rfl
  | x :: xs => by
    rw [List.map_cons]
    unfold PyData.eqvAll
    rw [eqvAll_ints xs, eqv_ii]
    simp
theorem ne_ints (xs : List Int) : cmp .ne (.tuple (xs.map .int)) (.tuple (xs.map .int)) = some false := by
  show (if shallow _ _ = true then some (!PyData.eqv _ _) else none) = _
  rw [if_pos (by unfold shallow; rw [show PyData.depth (.tuple (xs.map PyData.int)) = PyData.depthAll (xs.map PyData.int) + 1 by unfold PyData.depth; rfl, dep_ints]; rfl)]
  rw [show PyData.eqv (.tuple (xs.map .int)) (.tuple (xs.map .int)) = PyData.eqvAll (xs.map .int) (xs.map .int) by unfold PyData.eqv; rfl, eqvAll_ints]
  rfl
theorem in_nats (i : Nat) (l : List Nat) : cmp .isIn (.int (i : Int)) (.list (l.map fun (r : Nat) => .int (r : Int))) = some (decide (i ∈ l)) := by
  show inSeq _ _ = _
  unfold inSeq
  rw [if_pos (by unfold shallow; rw [show PyData.depth (.int (i : Int)) = 0 by unfold PyData.depth; rfl]; simp)]
  congr 1
  rw [Bool.eq_iff_iff, List.any_eq_true, decide_eq_true_eq]
  constructor
  · rintro ⟨x, hx, he⟩
    obtain ⟨r, hr, rfl⟩ := List.mem_map.mp hx
    rw [eqv_ii, beq_iff_eq] at he
    have : r = i := by omega
    rw [← this]; exact hr
  · intro h
    exact ⟨_, List.mem_map.mpr ⟨i, h, rfl⟩, by rw [eqv_ii]; simp⟩
theorem sm4 : smallI 4 = true := by decide
theorem sm3 : smallI 3 = true := by decide
theorem isNone_optS (o : Option Str) : isNone (optS o) = o.isNone := by cases o <;> rfl
theorem isN_optS (o : Option Str) : cmp .isN (optS o) .none = some o.isNone := by cases o <;> rfl
theorem wp_law (n : Nat) (hn : 40 ≤ n) (ns : List Int) (h63 : ns.length ≤ 63) : CWp (runFun (callN L n) F_law [.b (.list (ns.map .int))]) (fun r _ => r = .st (.bool true)) fun _ _ => False := by
  refine wp_fun rfl rfl ?_
  have h_begin : ((callN L n).fn "_law_begin").isSome = true := fn_isSome' L__law_begin (by omega)
  have h_draw : ((callN L n).fn "_law_draw").isSome = true := fn_isSome' L__law_draw (by omega)
  have h_pattern : ((callN L n).fn "_law_pattern").isSome = true := fn_isSome' L__law_pattern (by omega)
  have h_formula : ((callN L n).fn "_law_formula").isSome = true := fn_isSome' L__law_formula (by omega)
  have h_wrong : ((callN L n).fn "_law_wrong").isSome = true := fn_isSome' L__law_wrong (by omega)
  have h_reason : ((callN L n).fn "_law_reason").isSome = true := fn_isSome' L__law_reason (by omega)
  have h_refused : ((callN L n).fn "_law_refused").isSome = true := fn_isSome' L__law_refused (by omega)
  have h_says : ((callN L n).fn "_law_says").isSome = true := fn_isSome' L__law_says (by omega)
  have h_isq : ((callN L n).fn "is_question").isSome = true := fn_isSome' L_is_question (by omega)
  have h_table : ((callN L n).fn "_law_table").isSome = true := fn_isSome' L__law_table (by omega)
  unfold F_law
  simp [Wp_bind]
  refine wp_callA h_begin ?_
  simp
  refine wp_begin (by omega) ns h63 fun ds hd => ?_
  simp [Wp_bind]
  refine wp_callA h_draw ?_
  simp
  refine wp_drawL (by omega) hd (by omega) (by omega) fun ds c hd hc1 hc2 => ?_
  obtain ⟨cols, hcols, hc0, hc4⟩ : ∃ cols : Nat, 1 + c = (cols : Int) ∧ 1 ≤ cols ∧ cols ≤ 4 := ⟨(1 + c).toNat, by omega, by omega, by omega⟩
  simp [Wp_bind, hcols]
  refine wp_ecomp rfl ?_
  simp [Wp_bind]
  refine wp_callA h_draw ?_
  simp
  refine wp_drawL (by omega) hd (by omega) (by omega) fun ds k hd hk1 hk2 => ?_
  obtain ⟨np, hnp, hp0, hp3⟩ : ∃ np : Nat, 1 + k = (np : Int) ∧ 1 ≤ np ∧ np ≤ 3 := ⟨(1 + k).toNat, by omega, by omega, by omega⟩
  have hsk : smallI (np : Int) = true := smallI_nat _ (by omega)
  simp [hnp, hsk]
  obtain ⟨J, hJ⟩ := opq fun (j : Nat) (acc : List D) (e : Env) => ∃ (ds : List D) (s5 : Slot) (pats : List (List (Option Int))), DrL ds ∧ e = [.b (.list (ns.map .int)), .ol ds, .v (.int cols), .u, .u, s5, .u, .u, .u, .u, .u, .u, .u, .u] ∧ acc = (pats.map fun p => .tuple (p.map optI)) ∧ pats.length = j ∧ ∀ p ∈ pats, p.length = cols
  refine wp_comp J (by rw [hJ]; exact ⟨_, _, [], hd, rfl, rfl, rfl, fun _ z => (nomatch z)⟩) ?_ ?_ ?_
  · rw [line_val, range0_len]; omega
  · intro j y acc e hy hi
    rw [hJ] at hi
    obtain ⟨ds, s5, pats, hd, rfl, rfl, hl, hw⟩ := hi
    simp [Wp_bind]
    refine wp_callA h_pattern ?_
    simp
    refine wp_pattern (by omega) hd cols (by omega) fun ds' p hd' hp => ?_
    simp
    rw [hJ]
    refine ⟨_, _, pats ++ [p], hd', rfl, by simp, by simp [hl], fun q hq => ?_⟩
    rcases List.mem_append.mp hq with z | z
    · exact hw q z
    · rw [List.mem_singleton] at z; subst z; exact hp
  · intro acc e hi
    rw [hJ] at hi
    obtain ⟨ds, s5, pats, hd, rfl, rfl, hl, hw⟩ := hi
    rw [range0_len] at hl
    subst hl
    simp [Wp_bind]
    refine wp_callA h_formula ?_
    simp [Wp_bind]
    refine wp_callA h_draw ?_
    simp
    refine wp_drawL (by omega) hd (by omega) (by omega) fun ds k2 hd hk1 hk2 => ?_
    obtain ⟨nn, hnn, hn0, hn6⟩ : ∃ nn : Nat, 1 + k2 = (nn : Int) ∧ 1 ≤ nn ∧ nn ≤ 6 := ⟨(1 + k2).toNat, by omega, by omega, by omega⟩
    simp [hnn]
    refine wp_formula (by omega) hd pats.length (by omega) (by omega) nn hn0 hn6 fun ds f hd hwf hsz => ?_
    simp
    obtain ⟨I, hI⟩ := opq fun (k : Nat) (e : Env) => ∃ (ds : List D) (s5 s7 s8 : Slot), DrL ds ∧ e = [.b (.list (ns.map .int)), .ol ds, .v (.int cols), .v (.tuple (pats.map fun p => .tuple (p.map optI))), .v (.tuple [.tuple (pats.map fun p => .tuple (p.map optI)), f.toD]), s5, .u, s7, s8, .u, .u, .u, .u, .u]
    simp [sm4, Wp_bind]
    refine wp_for I (by rw [hI]; exact ⟨_, _, _, _, hd, rfl⟩) ?_ ?_
    · intro k x e hx hi
      rw [hI] at hi
      obtain ⟨ds, s5, s7, s8, hd, rfl⟩ := hi
      refine ⟨_, rfl, ?_⟩
      have hxk : ∃ i : Int, x = .int i := by
        rw [show (4 : Int) = ((4 : Nat) : Int) from rfl, range0_get] at hx
        split at hx
        · exact ⟨_, (Option.some.inj hx).symm⟩
        · cases hx
      obtain ⟨i, rfl⟩ := hxk
      cases hi0 : decide (i = 0) with
      | true =>
        simp [hi0]
        have hT := sm_pats hc4 hp3 hw f
        generalize (PyData.tuple [.tuple (pats.map fun p => (PyData.tuple (p.map optI) : D)), f.toD]) = q at hT hI ⊢
        simp [Wp_bind]
        refine wp_callA h_reason ?_
        simp
        refine wp_law_reason (by omega) cols (by omega) q hT ?_
        simp [Wp_bind]
        refine wp_callA h_refused ?_
        simp
        refine wp_law_refused (by omega) cols (by omega) q hT ?_
        simp [Wp_bind]
        refine wp_callA h_says ?_
        simp [Wp_bind]
        refine wp_callA h_isq ?_
        simp
        refine wp_is_question (by omega) cols (by omega) q hT ?_
        simp [isN_optS, isNone_optS]
        refine wp_law_says (by omega) _ _ ?_
        simp
        rw [hI]
        exact ⟨_, _, _, _, hd, rfl⟩
      | false =>
        simp [hi0, Wp_bind]
        refine wp_callA h_wrong ?_
        simp
        refine wp_wrong (by omega) hd cols hc0 hc4 pats hp0 hp3 hw f fun ds q hd hT => ?_
        simp [Wp_bind]
        refine wp_callA h_reason ?_
        simp
        refine wp_law_reason (by omega) cols (by omega) q hT ?_
        simp [Wp_bind]
        refine wp_callA h_refused ?_
        simp
        refine wp_law_refused (by omega) cols (by omega) q hT ?_
        simp [Wp_bind]
        refine wp_callA h_says ?_
        simp [Wp_bind]
        refine wp_callA h_isq ?_
        simp
        refine wp_is_question (by omega) cols (by omega) q hT ?_
        simp [isN_optS, isNone_optS]
        refine wp_law_says (by omega) _ _ ?_
        simp
        rw [hI]
        exact ⟨_, _, _, _, hd, rfl⟩
    · intro e hi
      rw [hI] at hi
      obtain ⟨ds, s5, s7, s8, hd, rfl⟩ := hi
      simp [Wp_bind]
      refine wp_callA h_table ?_
      simp [Wp_bind]
      refine wp_callA h_draw ?_
      simp
      refine wp_drawL (by omega) hd (by omega) (by omega) fun ds many hd hm1 hm2 => ?_
      obtain ⟨many, rfl⟩ := Int.eq_ofNat_of_zero_le hm1
      simp
      refine wp_table (by omega) hd cols (by omega) (by omega) many (by omega) 3 9 (by omega) (by omega) (by omega) (by omega) fun ds T hd hT hTl => ?_
      simp [sm3, Wp_bind, rowsD]
      obtain ⟨I, hI⟩ := opq fun (k : Nat) (e : Env) => ∃ (ds : List D) (s5 s8 s9 s10 s11 s12 s13 : Slot), DrL ds ∧ e = [.b (.list (ns.map .int)), .ol ds, .v (.int cols), .v (.tuple (pats.map fun p => .tuple (p.map optI))), .v (.tuple [.tuple (pats.map fun p => .tuple (p.map optI)), f.toD]), s5, .v (.tuple (T.map rowD)), s7, s8, s9, s10, s11, s12, s13]
      refine wp_for I (by rw [hI]; exact ⟨_, _, _, _, _, _, _, _, hd, rfl⟩) ?_ ?_
      · intro k x e hx hi
        rw [hI] at hi
        obtain ⟨ds, s5, s8, s9, s10, s11, s12, s13, hd, rfl⟩ := hi
        refine ⟨_, rfl, ?_⟩
        simp [Wp_bind]
        refine wp_ecomp rfl ?_
        have hsT : smallI (T.length : Int) = true := smallI_nat _ (by omega)
        simp [hsT]
        obtain ⟨J, hJ⟩ := opq fun (j : Nat) (acc : List D) (e : Env) => ∃ (ds : List D) (s13 : Slot) (ch : List Nat), DrL ds ∧ e = [.b (.list (ns.map .int)), .ol ds, .v (.int cols), .v (.tuple (pats.map fun p => .tuple (p.map optI))), .v (.tuple [.tuple (pats.map fun p => .tuple (p.map optI)), f.toD]), .v x, .v (.tuple (T.map rowD)), s7, s8, s9, s10, s11, s12, s13] ∧ acc = (ch.map fun (r : Nat) => .int (r : Int)) ∧ ch.length ≤ j ∧ ∀ r ∈ ch, r < j
        refine wp_comp J (by rw [hJ]; exact ⟨_, _, [], hd, rfl, rfl, Nat.le_refl _, fun _ z => (nomatch z)⟩) ?_ ?_ ?_
        · rw [line_val, range0_len]; omega
        · intro j y acc e hy hi
          rw [hJ] at hi
          obtain ⟨ds, s13, ch, hd, rfl, rfl, hl, hw2⟩ := hi
          rw [range0_get] at hy
          split at hy
          · cases hy
            simp [Wp_bind]
            refine wp_callA h_draw ?_
            simp
            refine wp_drawL (by omega) hd (by omega) (by omega) fun ds z hd _ _ => ?_
            simp
            cases hz : decide (0 < z) with
            | true =>
              simp
              rw [hJ]
              refine ⟨_, _, ch ++ [j], hd, rfl, by simp, by simp; omega, fun r hr => ?_⟩
              rcases List.mem_append.mp hr with z | z
              · have := hw2 r z; omega
              · rw [List.mem_singleton] at z; omega
            | false =>
              simp
              rw [hJ]
              exact ⟨_, _, ch, hd, rfl, rfl, by omega, fun r hr => by have := hw2 r hr; omega⟩
          · cases hy
        · intro acc e hi
          rw [hJ] at hi
          obtain ⟨ds, s13, ch, hd, rfl, rfl, hl, hw2⟩ := hi
          rw [range0_len] at hl hw2
          simp [Wp_bind]
          have h_lm : ((callN L n).fn "_law_matches").isSome = true := fn_isSome' L__law_matches (by omega)
          have h_m : ((callN L n).fn "matches").isSome = true := fn_isSome' L_matches (by omega)
          have h_pf : ((callN L n).fn "profile_of").isSome = true := fn_isSome' L_profile_of (by omega)
          have h_pl : ((callN L n).fn "_law_plain").isSome = true := fn_isSome' L__law_plain (by omega)
          have h_lh : ((callN L n).fn "_law_holds").isSome = true := fn_isSome' L__law_holds (by omega)
          have h_h : ((callN L n).fn "holds").isSome = true := fn_isSome' L_holds (by omega)
          have h_hi : ((callN L n).fn "holds_in").isSome = true := fn_isSome' L_holds_in (by omega)
          have hpl : (prof pats T ch).length = pats.length := by unfold prof; rw [List.length_map]
          obtain ⟨K, hK⟩ := opq fun (k : Nat) (e : Env) => ∃ (s11 s12 s13 : Slot), e = [.b (.list (ns.map .int)), .ol ds, .v (.int cols), .v (.tuple (pats.map fun p => .tuple (p.map optI))), .v (.tuple [.tuple (pats.map fun p => .tuple (p.map optI)), f.toD]), .v x, .v (.tuple (T.map rowD)), s7, s8, .v (.tuple (ch.map fun (r : Nat) => .int (r : Int))), .ol (((prof pats T ch).map .int).take k), s11, s12, s13]
          refine wp_for K (by rw [hK]; exact ⟨_, _, _, rfl⟩) ?_ ?_
          · intro k y e hy hi
            rw [hK] at hi
            obtain ⟨s11, s12, s13, rfl⟩ := hi
            rw [List.getElem?_map] at hy
            obtain ⟨p, hpk, rfl⟩ := Option.map_eq_some_iff.mp hy
            have hpm : p ∈ pats := List.mem_of_getElem? hpk
            have hplen := hw p hpm
            refine ⟨_, rfl, ?_⟩
            simp [Wp_bind]
            refine wp_ecomp rfl ?_
            simp
            obtain ⟨J, hJ⟩ := opq fun (j : Nat) (acc : List D) (e : Env) => ∃ s13, e = [.b (.list (ns.map .int)), .ol ds, .v (.int cols), .v (.tuple (pats.map fun p => .tuple (p.map optI))), .v (.tuple [.tuple (pats.map fun p => .tuple (p.map optI)), f.toD]), .v x, .v (.tuple (T.map rowD)), s7, s8, .v (.tuple (ch.map fun (r : Nat) => .int (r : Int))), .ol (((prof pats T ch).map .int).take k), .v (.tuple (p.map optI)), s12, s13] ∧ acc = ((ch.take j).filter (mt p T)).map fun (r : Nat) => .int (r : Int)
            refine wp_comp J (by rw [hJ]; exact ⟨_, rfl, rfl⟩) ?_ ?_ ?_
            · rw [line_val]; simp; omega
            · intro j y acc e hy hi
              rw [hJ] at hi
              obtain ⟨s13, rfl, rfl⟩ := hi
              rw [List.getElem?_map] at hy
              obtain ⟨r, hr, rfl⟩ := Option.map_eq_some_iff.mp hy
              have hrl : r < T.length := hw2 r (List.mem_of_getElem? hr)
              obtain ⟨h1, h2, h3⟩ := row_at hT hrl
              have hmt : mt p T r = matchF p T[r].2.2.2 := by unfold mt; rw [h2]
              simp [Wp_bind]
              refine wp_callA h_lm ?_
              simp [h1, rowD]
              refine wp_law_matches (by omega) _ _ (by rw [hplen, ← h3, h2]) (by rw [hplen]; exact hT.c) ?_
              simp
              rw [← hmt]
              cases hm : mt p T r with
              | true =>
                simp
                rw [hJ]
                refine ⟨_, rfl, ?_⟩
                rw [filter_take_succ ch _ j r hr, hm]
                simp
              | false =>
                simp
                rw [hJ]
                refine ⟨_, rfl, ?_⟩
                rw [filter_take_succ ch _ j r hr, hm]
                simp
            · intro acc e hi
              rw [hJ] at hi
              obtain ⟨s13, rfl, rfl⟩ := hi
              rw [List.length_map, List.take_length]
              simp [Wp_bind]
              refine wp_ecomp rfl ?_
              simp
              obtain ⟨J2, hJ2⟩ := opq fun (j : Nat) (acc : List D) (e : Env) => ∃ s13, e = [.b (.list (ns.map .int)), .ol ds, .v (.int cols), .v (.tuple (pats.map fun p => .tuple (p.map optI))), .v (.tuple [.tuple (pats.map fun p => .tuple (p.map optI)), f.toD]), .v x, .v (.tuple (T.map rowD)), s7, s8, .v (.tuple (ch.map fun (r : Nat) => .int (r : Int))), .ol (((prof pats T ch).map .int).take k), .v (.tuple (p.map optI)), .v (.list ((ch.filter (mt p T)).map fun (r : Nat) => .int (r : Int))), s13] ∧ acc = (ch.map fun _ => (.bool true : D)).take j
              refine wp_comp J2 (by rw [hJ2]; exact ⟨_, rfl, rfl⟩) ?_ ?_ ?_
              · rw [line_val]; simp; omega
              · intro j y acc e hy hi
                rw [hJ2] at hi
                obtain ⟨s13, rfl, rfl⟩ := hi
                rw [List.getElem?_map] at hy
                obtain ⟨r, hr, rfl⟩ := Option.map_eq_some_iff.mp hy
                have hrm := List.mem_of_getElem? hr
                have hrl : r < T.length := hw2 r hrm
                obtain ⟨h1, h2, h3⟩ := row_at hT hrl
                have hmt : mt p T r = matchF p T[r].2.2.2 := by unfold mt; rw [h2]
                have hin : decide (r ∈ ch.filter (mt p T)) = mt p T r := by
                  rw [Bool.eq_iff_iff, decide_eq_true_eq, List.mem_filter]
                  exact ⟨fun z => z.2, fun z => ⟨hrm, z⟩⟩
                simp [Wp_bind]
                refine wp_callA h_says ?_
                simp [Wp_bind]
                refine wp_callA h_m ?_
                simp [h1, rowD]
                refine wp_matches (by omega) _ _ (by rw [hplen, ← h3, h2]) (by rw [hplen]; exact hT.c) ?_
                rw [← hmt]
                have hin2 := in_nats r (ch.filter (mt p T))
                rw [hin] at hin2
                simp [hin2]
                refine wp_law_says (by omega) _ _ ?_
                simp
                rw [hJ2]
                refine ⟨_, rfl, ?_⟩
                exact map_take_succ ch (fun _ => (.bool true : D)) j r hr
              · intro acc e hi
                rw [hJ2] at hi
                obtain ⟨s13, rfl, rfl⟩ := hi
                rw [List.length_map, map_take_all]
                have hall : b1 .all (.list (ch.map fun _ => (.bool true : D))) = some (.st (.bool true)) := by
                  have := b1_all_map ch (fun _ => true)
                  rw [this, List.all_eq_true.mpr fun _ _ => rfl]
                have hlt : min k (prof pats T ch).length < 16777216 := by rw [hpl]; omega
                simp [hlt, hall]
                have e1 : (if (((ch.filter (mt p T)).length : Nat) : Int) < (3 : Int) then (((ch.filter (mt p T)).length : Nat) : Int) else (3 : Int)) = (cnt p T ch : Int) := by
                  unfold cnt
                  split <;> omega
                have hk : (prof pats T ch)[k]? = some (cnt p T ch : Int) := by unfold prof; rw [List.getElem?_map, hpk]; rfl
                rw [e1, map_take_succ (prof pats T ch) PyData.int k _ hk, hK]
                exact ⟨_, _, _, rfl⟩
          · intro e hi
            rw [hK] at hi
            obtain ⟨s11, s12, s13, rfl⟩ := hi
            have htk : ((prof pats T ch).map PyData.int).take (pats.map fun p => (PyData.tuple (p.map optI) : D)).length = (prof pats T ch).map .int := by
              rw [List.length_map, List.take_of_length_le (by unfold prof; simp)]
            rw [htk]
            have hne := ne_ints (prof pats T ch)
            have hpd : (PyData.tuple (pats.map fun p => .tuple (p.map optI)) : D) = patsD pats := rfl
            have hrd : (PyData.tuple (T.map rowD) : D) = rowsD T := rfl
            have hcd : (PyData.tuple (ch.map fun (r : Nat) => .int (r : Int)) : D) = chD ch := rfl
            simp [Wp_bind]
            refine wp_callA h_pf ?_
            simp
            rw [hpd, hrd, hcd]
            refine wp_profile_of (by omega) cols T hT pats hw (by omega) ch hw2 (by omega) ?_
            simp [hne, Wp_bind]
            refine wp_callA h_pl ?_
            simp [Wp_bind]
            refine wp_callA h_pf ?_
            simp
            refine wp_profile_of (by omega) cols T hT pats hw (by omega) ch hw2 (by omega) ?_
            simp
            refine wp_law_plain (by omega) _ (by omega) ?_
            simp [Wp_bind]
            refine wp_callA h_lh ?_
            simp
            have hwf2 : f.wf (prof pats T ch).length := by rw [hpl]; exact hwf
            refine wp_law_holds f (by omega) (by omega) _ hwf2 ?_
            simp [Wp_bind]
            refine wp_callA h_says ?_
            simp [Wp_bind]
            refine wp_callA h_h ?_
            simp
            refine wp_holds _ f n (by omega) hwf2 _ _ ?_
            simp
            refine wp_law_says (by omega) _ _ ?_
            simp [Wp_bind]
            refine wp_callA h_says ?_
            simp [Wp_bind]
            refine wp_callA h_hi ?_
            simp
            refine wp_holds_in f (by omega) cols T hT pats hw (by omega) ch hw2 (by omega) hwf ?_
            simp
            refine wp_law_says (by omega) _ _ ?_
            simp
            rw [hI]
            exact ⟨_, _, _, _, _, _, _, _, hd, rfl⟩
      · intro e hi
        rw [hI] at hi
        obtain ⟨ds, s5, s8, s9, s10, s11, s12, s13, hd, rfl⟩ := hi
        simp
theorem keeps : KeepsN src.L 100 := by
  refine ⟨F_law, L_law, rfl, fun ns h => ?_⟩
  have := wp_law 100 (by omega) ns h
  cases hr : runFun (callN L 100) F_law [.b (.list (ns.map .int))] with
  | ret r outs =>
    rw [hr] at this
    rw [this]
    exact ⟨outs, rfl⟩
  | exc x outs => rw [hr] at this; exact this.elim
  | bad => rw [hr] at this; exact this.elim
end
end LW
end

section
set_option autoImplicit false
set_option linter.all false
set_option Elab.async false
set_option maxRecDepth 100000
set_option maxHeartbeats 0
namespace LW
open PySem PySem.Spec PyProof.Rows L2 MP
abbrev pr : Program := PySem.Challenge.pw_rowtruce_k75_questions_checked
theorem cls_ok : ClsOk pr top src := by
  intro r hr hk w K mg base C f cc cda k hm
  simp only [src, cls, List.mem_cons, List.not_mem_nil, or_false] at hr
  rcases hr with rfl | rfl | rfl
  · exact absurd rfl hk
  · exact raise_two k hm rfl (by decide +kernel) (by decide +kernel)
  · exact raise_one k hm rfl (by decide +kernel) (by decide +kernel)
abbrev R : PySem.W.OpenRow := PySem.W.OpenLaw.row PySem.Challenge.rw_rowtruce_k75_questions_checked
def names : List Str := (["TruceError", "BadTable", "BadQuestion", "is_integer", "wrong_patterns", "check_question", "is_part", "is_question", "matches", "profile_of", "holds", "holds_in", "_law_begin", "_law_draw", "_law_pick", "_law_is_int", "_law_says", "_law_plain", "_law_cells", "_law_row", "_law_table", "_law_pattern", "_law_formula", "_law_nodes", "_law_is_node", "_law_reason", "_law_wrong", "_law_refused", "_law_matches", "_law_holds", "MOST_PATTERNS", "MOST_NODES", "CAP"] : List String).map Str.ofString
abbrev hk : PySem.W.Hook := src.hook (pr.main.file : Str) top 4
def ob (s : PySem.W.SharedT) : AlM := src.obsMG (pr.main.file : Str) 4 (HandSHeadRun.getT s)
theorem ob_eq (s : PySem.W.SharedT) : ob s = hk.obs s.abs := Src.obsMG_eq (HandSHeadRun.getT_eq s)
theorem run (w : World) : HandSHeadRun.RunEq R (PySem.W.view R.prog [37]) hk ob 4000 names w := by
  intro os
  kernel_rfl
end LW
end

section
set_option autoImplicit false
set_option linter.all false
set_option Elab.async false
set_option maxRecDepth 100000
set_option maxHeartbeats 0
namespace LW
open PySem PySem.Spec PyProof.Rows L2 MP
end LW
open PySem PySem.W PySem.Calls PyProof.Rows
theorem PySem.Challenge.cw_rowtruce_k75_questions_checked_holds : PySem.Challenge.rw_rowtruce_k75_questions_checked.Holds := by
  w_on; o_law
  refine HandSHeadRun.head_any (r := OpenLaw.row PySem.Challenge.rw_rowtruce_k75_questions_checked) (q := view (OpenLaw.row PySem.Challenge.rw_rowtruce_k75_questions_checked).prog [37]) (H := LW.hk) (ob := LW.ob) (M := 4000) (loose := LW.names) (d := HandSHeadRun.topDef (OpenLaw.row PySem.Challenge.rw_rowtruce_k75_questions_checked).prog 37) (kwd := []) LW.ob_eq
    (by kernel_rfl) (fun s => by kernel_rfl) LW.run (by kernel_rfl) (by kernel_rfl) (by kernel_rfl) (by rfl) (by first | assumption | decide +kernel) (by decide +kernel) ⟨rfl, rfl, rfl, rfl, rfl, by decide +kernel⟩ ?hw ?hc
  case hw => w_witness2
  case hc => exact MP.law_walk (l := PySem.Challenge.rw_rowtruce_k75_questions_checked) (n := 100) rfl (by kernel_rfl) (by kernel_rfl) ⟨rfl, by decide, by decide⟩ LW.defs_ok LW.cls_ok LW.keeps
end
