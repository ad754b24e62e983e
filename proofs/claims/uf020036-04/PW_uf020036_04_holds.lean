import PyProof.Rows.All
import PyProof.Calls
import PyProof.SliceList
import PyProof.Cells
import PyProof.CompUse
import PyProof.ToksMono
import PyProof.CompFree
import PyProof.PureInt
import PyProof.Conv_int_bool
import PyProof.Dict
import PyProof.ListOps
import PyProof.Rows.RowHeap
import PyProof.IsRules
import PyProof.P3Eq
import PyProof.EqLayable
import PyProof.ExcArgsOwn
import PyProof.RaisesMany
import PyProof.ForAppend
import PyProof.RangeFor
import PyProof.IsiHeapPairs
import PyProof.IsiNone
import PyProof.IsiPairs
import PyProof.ListCopy
import PyProof.ListIndexNeg
import PyProof.WalkInts
import PyProof.RulesAs
import PyProof.P3In
import PyProof.Rows.IntRules
import PyProof.ZipIter
import PyProof.WalksPairs
import PyProof.Rows.Many
import PyProof.Rows.Chain
import PyProof.Rows.Nodes
import PyProof.Rows.RuleU_int
import PyProof.Rows.RuleB_mul
import PyProof.Rows.RuleB_sub
import PyProof.Rows.RuleB_pow
import PyProof.Rows.RuleB_floordiv
import PyProof.Rows.RuleB_mod
import PyProof.Rows.StrTemp
import PyProof.Rows.RuleC_int
import PyProof.Rows.RuleN_abs
import PyProof.TupleOps
import PyProof.Rows.StrRules
import PyProof.Rows.Range3
import KE.KIsAll
import KE.KRevIter
import KE.KTryMore
import Wide.FinOn
import OpenK.AllK
import Wide.All
import PySem.Challenge.RW_uf020036_04
set_option Elab.async false

section
set_option linter.unusedVariables false
namespace Mine
open PySem

/-- a value: data, or a caught exception (by its class's name) -/
inductive V where
  | dat (d : PyData)
  | exc (c : Str)

mutual
/-- no list and no dict within -/
def flat : PyData → Bool
  | .none | .bool _ | .int _ | .str _ => true
  | .tuple xs => flatAll xs
  | .list _ | .dict _ => false
def flatAll : List PyData → Bool
  | [] => true
  | x :: r => flat x && flatAll r
end
def V.flat : V → Bool
  | .dat d => Mine.flat d
  | .exc _ => true

abbrev Sc := List (Str × NameKind)
abbrev Rho := List (Str × V)
abbrev VB := V × Bool

/-- a run told by what is wanted of it: of its result, of its exception's class -/
abbrev W (α : Type) := (α → Prop) → (Str → Prop) → Prop
def wok {α : Type} (a : α) : W α := fun Q _ => Q a
def wbind {α β : Type} (m : W α) (f : α → W β) : W β := fun Q X => m (fun a => f a Q X) X
def wno {α : Type} : W α := fun _ _ => False
def wif {α : Type} (c : Bool) (w : W α) : W α := fun Q X => match c with | true => w Q X | false => False
def wopt {α β : Type} (o : Option α) (f : α → W β) : W β := fun Q X => match o with | some a => f a Q X | none => False
def wget {α : Type} (r : Option α) : W α := fun Q _ => ∃ a, r = some a ∧ Q a
theorem wif_elim {α : Type} {c : Bool} {w : W α} {Q X} (h : wif c w Q X) : c = true ∧ w Q X := by
  cases c
  · exact h.elim
  · exact ⟨rfl, h⟩
theorem wopt_elim {α β : Type} {o : Option α} {f : α → W β} {Q X} (h : wopt o f Q X) : ∃ a, o = some a ∧ f a Q X := by
  cases o
  · exact h.elim
  · exact ⟨_, rfl, h⟩

/-- what the evaluator is told of the program -/
structure Cfg where
  /-- the text's own defs: what a call gives (within a handler, or not); are all lists in it new -/
  call : Bool → Str → List V → W VB
  isFn : Str → Bool
  const : Str → Option PyData
  isCls : Str → Bool
  sub : Str → Str → Bool

def mulOk (a b : Int) : Bool := decide (Builtin.Int.intBits a ≤ 64) || decide (Builtin.Int.intBits b ≤ 64)

def wbinI (op : Operator) (a b : Int) : W VB := match op with
  | .Add => wok (.dat (.int (a + b)), true)
  | .Sub => wok (.dat (.int (a - b)), true)
  | .Mult => fun Q _ => mulOk a b = true ∧ Q (.dat (.int (a * b)), true)
  | .FloorDiv => fun Q _ => b ≠ 0 ∧ b.natAbs < 1073741824 ∧ Q (.dat (.int (a.fdiv b)), true)
  | .Mod => fun Q _ => b ≠ 0 ∧ Q (.dat (.int (a.fmod b)), true)
  | .Pow => fun Q _ => 0 ≤ b ∧ (Builtin.Int.intBits a : Int) * b ≤ 2 ^ 27 ∧ Q (.dat (.int (a ^ b.toNat)), true)
  | _ => wno
def wbinL (op : Operator) (xs ys : List PyData) (f g : Bool) : W VB := match op with
  | .Add => fun Q _ => xs.length + ys.length ≤ 1048576 ∧ ∃ fl, ((f && g) || (flatAll xs && flatAll ys)) = fl ∧ Q (.dat (.list (xs ++ ys)), fl)
  | _ => wno
def wbinS (op : Operator) (x y : Str) : W VB := match op with
  | .Add => fun Q _ => x.length + y.length ≤ 1048576 ∧ Q (.dat (.str (x ++ y)), true)
  | _ => wno
def wbinSI (op : Operator) (x : Str) (n : Int) : W VB := match op with
  | .Mult => fun Q _ => (n = 0 ∧ Q (.dat (.str Str.empty), true)) ∨ (n = 1 ∧ Q (.dat (.str x), true))
  | _ => wno
def wbinop (op : Operator) : VB → VB → W VB
  | (.dat a, f), (.dat b, g) => (match a with
    | .int i => (match b with | .int j => wbinI op i j | _ => wno)
    | .list xs => (match b with | .list ys => wbinL op xs ys f g | _ => wno)
    | .str x => (match b with | .str y => wbinS op x y | .int n => wbinSI op x n | _ => wno)
    | _ => wno)
  | _, _ => wno

/-- a bool that is asked: both ways -/
def wask (p : Prop) : W Bool := fun Q _ => (p → Q true) ∧ (¬ p → Q false)
def wcmpI (op : CmpOp) (a b : Int) : W Bool := match op with
  | .Eq => wask (a = b)
  | .NotEq => wask (a ≠ b)
  | .Lt => wask (a < b)
  | .LtE => wask (a ≤ b)
  | .Gt => wask (b < a)
  | .GtE => wask (b ≤ a)
  | _ => wno
def wcmpD (op : CmpOp) (a b : PyData) : W Bool := match op with
  | .Eq => fun Q _ => SeqAt.shaped a = true ∧ SeqAt.shaped b = true ∧ ∃ c, PyData.eqv a b = c ∧ Q c
  | .NotEq => fun Q _ => SeqAt.shaped a = true ∧ SeqAt.shaped b = true ∧ ∃ c, PyData.eqv a b = c ∧ Q (!c)
  | .Is => (match b with | .none => wok (match a with | .none => true | _ => false) | _ => wno)
  | .IsNot => (match b with | .none => wok (match a with | .none => false | _ => true) | _ => wno)
  | _ => wno
def isInts : PyData → PyData → Bool
  | .int _, .int _ => true
  | _, _ => false
def wcmp (op : CmpOp) : V → V → W Bool
  | .dat a, .dat b => (match a with
    | .int i => (match b with | .int j => wcmpI op i j | b => wcmpD op (.int i) b)
    | a => wcmpD op a b)
  | _, _ => wno

def isKind (T : Str) : PyData → Bool
  | .none => false
  | .bool _ => T == "int" || T == "bool"
  | .int _ => T == "int"
  | .str _ => T == "str"
  | .list _ => T == "list"
  | .tuple _ => T == "tuple"
  | .dict _ => false
def kindNames : List Str := ["int", "bool", "str", "list", "tuple"]
def isinst (K : Cfg) (v : V) (T : Str) : Option Bool := match v with
  | .dat d => if kindNames.contains T then some (isKind T d) else none
  | .exc c => if K.isCls c then (if K.isCls T then some (K.sub c T) else if T == "ValueError" then some true else none) else none

/-- a place in a list, from its end too -/
def place (i : Int) (n : Nat) : Option Nat := if 0 ≤ i then (if i < n then some i.toNat else none) else if 0 ≤ i + n then some (i + n).toNat else none
def itemL (xs : List PyData) (f : Bool) (i : Int) : Option VB := match place i xs.length with
  | some k => (match xs[k]? with | some d => some (.dat d, f || flat d) | none => none)
  | none => none
def item : VB → Int → Option VB
  | (.dat (.list xs), f), i => itemL xs f i
  | (.dat (.tuple xs), f), i => itemL xs f i
  | _, _ => none

/-- a slice -/
def sliceL {α : Type} (xs : List α) (lo hi st : Option Int) : List α := (sliceRange (sliceBounds lo hi st xs.length).1 (sliceBounds lo hi st xs.length).2.1 (sliceBounds lo hi st xs.length).2.2).filterMap (xs[·]?)
def wslice (lo hi st : Option Int) : VB → W VB
  | (.dat (.list xs), f) => fun Q _ => st ≠ some 0 ∧ ∃ ys, sliceL xs lo hi st = ys ∧ ∃ fl, (f || flatAll ys) = fl ∧ Q (.dat (.list ys), fl)
  | _ => wno

def intsOf : List PyData → Option (List Int)
  | [] => some []
  | .int i :: r => (intsOf r).map (i :: ·)
  | _ :: _ => none
def rangeUp (a : Int) (n : Nat) (c : Int) : List PyData := (List.range n).map fun (k : Nat) => PyData.int (a + (k : Int) * c)
/-- how many turns a range has, rising -/
def rangeLen (a b c : Int) : Nat := if a < b then ((b - a - 1) / c + 1).toNat else 0

structure WLv where
  ev : Sc → Rho → Expr → W VB
  cond : Sc → Rho → Expr → W Bool

def wevL (wl : WLv) (sc : Sc) (ρ : Rho) : List Expr → W (List VB)
  | [] => wok []
  | e :: r => wbind (wl.ev sc ρ e) fun v => wbind (wevL wl sc ρ r) fun vs => wok (v :: vs)
def wasBool : VB → W Bool
  | (.dat (.bool b), _) => wok b
  | _ => wno
/-- the rest of an and or an or -/
def wgo (op : BoolOp) (b : Bool) (r : W Bool) : W Bool := match op, b with
  | .And, false => wok false
  | .Or, true => wok true
  | .And, true => r
  | .Or, false => r
def wcondL (wl : WLv) (sc : Sc) (ρ : Rho) (op : BoolOp) : List Expr → W Bool
  | [] => wok (match op with | .And => true | .Or => false)
  | e :: r => wbind (wl.cond sc ρ e) fun b => wgo op b (wcondL wl sc ρ op r)
def wboolL (wl : WLv) (sc : Sc) (ρ : Rho) (op : BoolOp) : Expr → List Expr → W Bool
  | e, [] => wbind (wl.ev sc ρ e) wasBool
  | e, e' :: r => wbind (wl.ev sc ρ e) fun a => wbind (wasBool a) fun b => wgo op b (wboolL wl sc ρ op e' r)
def wchain (wl : WLv) (sc : Sc) (ρ : Rho) (l : V) : List CmpOp → List Expr → W Bool
  | [op], [e] => wbind (wl.ev sc ρ e) fun r => wcmp op l r.1
  | op :: op' :: ops, e :: e' :: es => wbind (wl.ev sc ρ e) fun r => wbind (wcmp op l r.1) fun b => match b with | true => wchain wl sc ρ r.1 (op' :: ops) (e' :: es) | false => wok false
  | _, _ => wno

def nameOf : Expr → Option (Str × Pos)
  | .Name x p => some (x, p)
  | _ => none
theorem nameOf_eq {e : Expr} {t : Str × Pos} (h : nameOf e = some t) : e = .Name t.1 t.2 := by
  cases e <;> cases h
  rfl
/-- what a target binds -/
def targets : List Expr → List PyData → Option Rho
  | [], [] => some []
  | e :: es, d :: ds => (match nameOf e with | some x => (targets es ds).map ((x.1, V.dat d) :: ·) | none => none)
  | _, _ => none
def bindT : Expr → PyData → Option Rho
  | .Name x _, d => some [(x, V.dat d)]
  | .Tuple es _ _, .tuple ds => targets es ds
  | _, _ => none

/-- the names of a comprehension's block as it is run -/
def compNames (sc names : Sc) : Sc := names.map fun (n, k) => if k == NameKind.free && sc.lookup n == some NameKind.cell then (n, NameKind.cell) else (n, k)
/-- what the block sees of the names around it -/
def closing (names : Sc) (ρ : Rho) : Rho := ρ.filter fun p => names.lookup p.1 == some NameKind.free
/-- a comprehension's block as the rules want it -/
def compScope (sc names : Sc) (x : Str) : Bool :=
  names.lookup x == some NameKind.local && names.all (fun y => y.2 != NameKind.cell) && names.all (fun y => y.2 != NameKind.local || names.lookup y.1 == some NameKind.local) &&
  names.all (fun y => y.2 != NameKind.free || ((sc.lookup y.1 == some NameKind.cell || sc.lookup y.1 == some NameKind.free) && names.lookup y.1 == some NameKind.free)) && decide ((names.map (·.1)).Nodup)

/-- a comprehension's tests: none or one -/
def wtests (wl : WLv) (sc : Sc) (ρ : Rho) : List Expr → W Bool
  | [] => wok true
  | [c] => wl.cond sc ρ c
  | _ => wno
/-- the items of a comprehension are vs -/
def WComp (wl : WLv) (sc : Sc) (ρ : Rho) (t : Expr) (ifs : List Expr) (elt : Expr) : List PyData → List VB → Prop
  | [], vs => vs = []
  | d :: r, vs => ∃ β, bindT t d = some β ∧ wtests wl sc (β ++ ρ) ifs (fun b => (b = true → wl.ev sc (β ++ ρ) elt (fun v => ∃ vs', WComp wl sc ρ t ifs elt r vs' ∧ vs = v :: vs') fun _ => False) ∧ (b = false → WComp wl sc ρ t ifs elt r vs)) fun _ => False

def datsOf : List VB → Option (List PyData)
  | [] => some []
  | (.dat d, _) :: r => (datsOf r).map (d :: ·)
  | (.exc _, _) :: _ => none
def mkListC (vs : List VB) : Option VB := (datsOf vs).map fun ds => (.dat (.list ds), vs.all (·.2))
def mkList (vs : List VB) : Option VB := if vs.length ≤ 1048576 then mkListC vs else none
def mkTuple (vs : List VB) : Option VB := if vs.length ≤ 1048576 then (datsOf vs).map fun ds => (.dat (.tuple ds), vs.all (·.2)) else none

def intArgs : List VB → Option (List Int)
  | [] => some []
  | (.dat (.int i), _) :: r => (intArgs r).map (i :: ·)
  | _ :: _ => none
def small (i : Int) : Bool := decide (-1000000 ≤ i) && decide (i ≤ 1000000)
def rangeOf : List Int → Option (List PyData)
  | [b] => if small b then some (rangeUp 0 (rangeLen 0 b 1) 1) else none
  | [a, b] => if small a && small b then some (rangeUp a (rangeLen a b 1) 1) else none
  | [a, b, c] => if small a && small b && small c && decide (0 < c) then some (rangeUp a (rangeLen a b c) c) else none
  | _ => none
def pairs : List PyData → List PyData → List PyData
  | x :: xs, y :: ys => .tuple [x, y] :: pairs xs ys
  | _, _ => []

def glob (sc : Sc) (x : Str) : Bool := sc.lookup x == some NameKind.globalImplicit
def isStarE : Expr → Bool
  | .Starred _ _ => true
  | _ => false
def noStar (es : List Expr) : Bool := !es.isEmpty && es.all fun e => !isStarE e

def wlist (v : V) (tup : Bool) : W (List PyData) := match v with
  | .dat (.list xs) => wok xs
  | .dat (.tuple xs) => wif (!tup) (wok xs)
  | _ => wno
def wzip : List VB → W (List PyData)
  | [(.dat (.list xs), _), (.dat (.list ys), _)] => wok (pairs xs ys)
  | _ => wno
def wrev : List VB → W (List PyData)
  | [(.dat (.list xs), _)] => wok xs.reverse
  | _ => wno
/-- the built-ins that make an iterator -/
inductive ItK where
  | range
  | zip
  | rev
def itKind : Bool → Str → Option ItK
  | false, f => match f == "range" with
    | true => some .range
    | false => match f == "reversed" with | true => some .rev | false => none
  | true, f => match f == "zip" with | true => some .zip | false => none
def wonly : V → W (List PyData)
  | .dat (.list xs) => wok xs
  | _ => wno
/-- a call by name, of a built-in that makes an iterator -/
def callOf : Expr → Option (Str × Pos × List Expr × Pos)
  | .Call (.Name f p) args [] q => some (f, p, args, q)
  | _ => none
/-- what a for or a comprehension goes over; tup: its target is a tuple of names -/
def witer (K : Cfg) (wl : WLv) (sc : Sc) (ρ : Rho) (tup : Bool) (e : Expr) : W (List PyData) := match callOf e with
  | some (f, _, args, _) => (match glob sc f && !K.isFn f with
    | true => wif (noStar args) (match itKind tup f with
      | some .range => wbind (wevL wl sc ρ args) fun vs => fun Q _ => ∃ is ds, intArgs vs = some is ∧ rangeOf is = some ds ∧ Q ds
      | some .zip => wbind (wevL wl sc ρ args) wzip
      | some .rev => wbind (wevL wl sc ρ args) wrev
      | none => wno)
    | false => wbind (wl.ev sc ρ e) fun v => wonly v.1)
  | none => wbind (wl.ev sc ρ e) fun v => wlist v.1 tup

def isTup : Expr → Bool
  | .Tuple _ _ _ => true
  | _ => false
def maxI (a : Int) : List Int → Int
  | [] => a
  | b :: r => maxI (if a < b then b else a) r
def minI (a : Int) : List Int → Int
  | [] => a
  | b :: r => minI (if b < a then b else a) r

/-- the built-ins that are called by name -/
def bLen : List VB → Option VB
  | [(.dat (.list xs), _)] => some (.dat (.int xs.length), true)
  | [(.dat (.tuple xs), _)] => some (.dat (.int xs.length), true)
  | _ => none
def bMin : List VB → Option VB
  | [(.dat (.int a), _), (.dat (.int b), _)] => some (.dat (.int (if b < a then b else a)), true)
  | [(.dat (.list xs), _)] => (match intsOf xs with | some (a :: r) => some (.dat (.int (minI a r)), true) | _ => none)
  | _ => none
def bMax : List VB → Option VB
  | [(.dat (.int a), _), (.dat (.int b), _)] => some (.dat (.int (if a < b then b else a)), true)
  | [(.dat (.list xs), _)] => (match intsOf xs with | some (a :: r) => some (.dat (.int (maxI a r)), true) | _ => none)
  | _ => none
def bAbs : List VB → Option VB
  | [(.dat (.int a), _)] => some (.dat (.int (if a < 0 then -a else a)), true)
  | _ => none
def bInt : List VB → Option VB
  | [(.dat (.bool b), _)] => some (.dat (.int (if b then 1 else 0)), true)
  | _ => none
def bList : List VB → Option VB
  | [(.dat (.list xs), fr)] => some (.dat (.list xs), fr || flatAll xs)
  | _ => none
def builtins : List (Str × (List VB → Option VB)) := [("len", bLen), ("min", bMin), ("max", bMax), ("abs", bAbs), ("int", bInt), ("list", bList)]
def biTab : List (Str × Value) := [("len", .builtin "len"), ("isinstance", .builtin "isinstance"), ("int", .type "int"), ("bool", .type "bool"), ("str", .type "str"), ("list", .type "list"), ("tuple", .type "tuple"),
  ("min", .builtin "min"), ("max", .builtin "max"), ("abs", .builtin "abs"), ("range", .type "range"), ("zip", .type "zip"), ("enumerate", .type "enumerate"), ("reversed", .type "reversed"),
  ("sorted", .builtin "sorted"), ("all", .builtin "all"), ("ValueError", .type "ValueError")]

def wint : V → W Int
  | .dat (.int i) => wok i
  | _ => wno
def wconst : Const → W VB
  | .none => wok (.dat .none, true)
  | .bool b => wok (.dat (.bool b), true)
  | .int i => wok (.dat (.int i), true)
  | .str x => wok (.dat (.str x), true)
  | _ => wno
def wname (K : Cfg) (sc : Sc) (ρ : Rho) (x : Str) : W VB := wif (!(x == "__debug__" || x == "__classdict__")) (match sc.lookup x with
  | some .local => wopt (ρ.lookup x) fun v => wok (v, v.flat)
  | some .cell => wopt (ρ.lookup x) fun v => wok (v, v.flat)
  | some .free => wopt (ρ.lookup x) fun v => wok (v, v.flat)
  | some .globalImplicit => wopt (K.const x) fun d => wok (.dat d, true)
  | _ => wno)
/-- isinstance with a class by name -/
def isiOf : List Expr → Option (Expr × Str × Pos)
  | [e, .Name T p] => some (e, T, p)
  | _ => none
def wcall (K : Cfg) (q : Bool) (wl : WLv) (sc : Sc) (ρ : Rho) (f : Str) (args : List Expr) : W VB := wif (glob sc f && noStar args && f != "__debug__") (match K.isFn f with
  | true => wbind (wevL wl sc ρ args) fun vs => wbind (K.call q f (vs.map (·.1))) fun v => wok (v.1, v.2 || v.1.flat || vs.all (·.2))
  | false => (match f == "isinstance" with
    | true => wopt (isiOf args) fun t => wif (glob sc t.2.1 && !K.isFn t.2.1) (wbind (wl.ev sc ρ t.1) fun v => wbind (wget (isinst K v.1 t.2.1)) fun b => wok (.dat (.bool b), true))
    | false => wopt (builtins.lookup f) fun g => wif (!q || f == "int") (wbind (wevL wl sc ρ args) fun vs => wget (g vs))))
def isSlice : Expr → Bool
  | .Slice _ _ _ _ => true
  | _ => false
def sliceOf : Expr → Option (Option Expr × Option Expr × Option Expr × Pos)
  | .Slice lo hi st p => some (lo, hi, st, p)
  | _ => none
/-- a part of a slice -/
def wpart (wl : WLv) (sc : Sc) (ρ : Rho) : Option Expr → W (Option Int)
  | none => wok none
  | some e => wbind (wl.ev sc ρ e) fun v => wbind (wint v.1) fun i => wok (some i)
/-- a comprehension over one name -/
def compOf : List Comprehension → Option (Str × Pos × Expr × List Expr)
  | [⟨.Name x px, it, ifs, 0⟩] => some (x, px, it, ifs)
  | _ => none
def wcompE (K : Cfg) (q : Bool) (wl : WLv) (sc : Sc) (ρ : Rho) (elt : Expr) (scope : Scope) (x : Str) (px : Pos) (it : Expr) (ifs : List Expr) : W VB :=
  wif (!q && compScope sc scope.names x && scope.kind == .function) (wbind (witer K wl sc ρ false it) fun ds => fun Q _ => ∃ vs, WComp wl (compNames sc scope.names) (closing scope.names ρ) (.Name x px) ifs elt ds vs ∧ ∃ r, mkListC vs = some r ∧ Q r)

def wstep (K : Cfg) (q : Bool) (wl : WLv) : WLv where
  ev sc ρ e := match e with
    | .Constant c _ _ => wconst c
    | .Name x _ => wname K sc ρ x
    | .BinOp l op r _ => wbind (wl.ev sc ρ l) fun a => wbind (wl.ev sc ρ r) fun b => wbinop op a b
    | .UnaryOp op x _ => (match op with
      | .Not => wbind (wl.ev sc ρ x) fun a => wbind (wasBool a) fun b => wok (.dat (.bool !b), true)
      | .USub => wbind (wl.ev sc ρ x) fun a => wbind (wint a.1) fun i => wok (.dat (.int (-i)), true)
      | _ => wno)
    | .BoolOp op es _ => (match es with | e :: r => wbind (wboolL wl sc ρ op e r) fun b => wok (.dat (.bool b), true) | [] => wno)
    | .Compare l ops es _ => wif (!lastMarks ops es) (wbind (wl.ev sc ρ l) fun a => wbind (wchain wl sc ρ a.1 ops es) fun b => wok (.dat (.bool b), true))
    | .List es _ => wbind (wevL wl sc ρ es) fun vs => wget (mkList vs)
    | .Tuple es _ _ => wbind (wevL wl sc ρ es) fun vs => wget (mkTuple vs)
    | .Dict ks vs _ => (match ks with | [] => (match vs with | [] => wok (.dat (.dict []), true) | _ => wno) | _ => wno)
    | .ListComp elt gs scope _ => wopt (compOf gs) fun t => wcompE K q wl sc ρ elt scope t.1 t.2.1 t.2.2.1 t.2.2.2
    | .Call f args kw _ => (match kw with | [] => wopt (nameOf f) fun t => wcall K q wl sc ρ t.1 args | _ => wno)
    | .Subscript v s _ => (match sliceOf s with
      | some t => wbind (wl.ev sc ρ v) fun a => wbind (wpart wl sc ρ t.1) fun lo => wbind (wpart wl sc ρ t.2.1) fun hi => wbind (wpart wl sc ρ t.2.2.1) fun st => wslice lo hi st a
      | none => wbind (wl.ev sc ρ v) fun a => wbind (wl.ev sc ρ s) fun i => wbind (wint i.1) fun i => wget (item a i))
    | _ => wno
  cond sc ρ e := match e with
    | .UnaryOp op x p => (match op with | .Not => wbind (wl.cond sc ρ x) fun b => wok !b | op => wbind (wl.ev sc ρ (.UnaryOp op x p)) wasBool)
    | .BoolOp op es _ => wcondL wl sc ρ op es
    | .Compare l ops es _ => wif (!lastMarks ops es) (wbind (wl.ev sc ρ l) fun a => wchain wl sc ρ a.1 ops es)
    | .IfExp _ _ _ _ => wno
    | e => wbind (wl.ev sc ρ e) wasBool

def wlev (K : Cfg) (q : Bool) : Nat → WLv
  | 0 => ⟨fun _ _ _ => wno, fun _ _ _ => wno⟩
  | n + 1 => wstep K q (wlev K q n)

end Mine
end

section
set_option linter.unusedVariables false
namespace Mine
open PySem

/-- a name's value, the regions that its lists lie in, and the region of the list itself where no other may hold it -/
structure Slot where
  v : V
  regs : List Nat
  top : Option Nat
abbrev Sg := List (Str × Slot)
inductive Out where
  | next (σ : Sg)
  | ret (v : V) (fresh : Bool)

mutual
/-- the names that an expression may read (a guess, and nothing hangs on it) -/
def nms : Expr → List Str
  | .Name x _ => [x]
  | .BinOp l _ r _ => nms l ++ nms r
  | .UnaryOp _ x _ => nms x
  | .BoolOp _ es _ => nmsL es
  | .Compare l _ es _ => nms l ++ nmsL es
  | .Call _ args _ _ => nmsL args
  | .Subscript v i _ => nms v ++ nms i
  | .Slice a b c _ => nmsO a ++ nmsO b ++ nmsO c
  | .List es _ => nmsL es
  | .Tuple es _ _ => nmsL es
  | .ListComp e gs _ _ => nms e ++ nmsG gs
  | _ => []
def nmsO : Option Expr → List Str
  | none => []
  | some e => nms e
def nmsL : List Expr → List Str
  | [] => []
  | e :: r => nms e ++ nmsL r
def nmsG : List Comprehension → List Str
  | [] => []
  | ⟨_, it, ifs, _⟩ :: r => nms it ++ nmsL ifs ++ nmsG r
end

def pick (σ : Sg) (ns : List Str) : Sg := σ.filter fun p => ns.contains p.1
def rhoOf (σ : Sg) : Rho := σ.map fun p => (p.1, p.2.v)
def regsOf (σ : Sg) : List Nat := σ.flatMap fun p => p.2.regs
def leastFrom (l : List Nat) : Nat → Nat → Nat
  | 0, k => l.foldl Nat.max k + 1
  | n + 1, k => if l.contains k then leastFrom l n (k + 1) else k
/-- a region's number that none bears yet -/
def freshOf (σ : Sg) (lk : List Nat) : Nat := leastFrom (lk ++ regsOf σ) 40 1

def setS (x : Str) (sl : Slot) : Sg → Sg
  | [] => [(x, sl)]
  | (y, s) :: r => if y == x then (y, sl) :: r else (y, s) :: setS x sl r
def setAll : Rho → List Nat → Sg → Sg
  | [], _, σ => σ
  | (x, v) :: r, rs, σ => setAll r rs (setS x ⟨v, if v.flat then [] else rs, none⟩ σ)
def bears (σ : Sg) (t : Nat) (y : Str) : Bool := match σ.lookup y with
  | some sl => sl.regs.contains t
  | none => false
def killS (t : Nat) (σ : Sg) : Sg := σ.filter fun p => !bears σ t p.1
def mask (dom : List Str) (σ : Sg) : Sg := σ.filter fun p => dom.contains p.1
def isListV : V → Bool
  | .dat (.list _) => true
  | _ => false
/-- the slot that an expression's value makes; t: the region of what is new -/
def slotOf (t : Nat) (rs : List Nat) (r : VB) : Slot :=
  if r.1.flat then ⟨r.1, [], none⟩ else if r.2 then ⟨r.1, [t], if isListV r.1 then some t else none⟩ else ⟨r.1, t :: rs, none⟩
/-- the regions of a list behind an append: what is all new is put into the list's own -/
def joinRg (u : Nat) (rg rs : List Nat) : List Nat := if rs == [u] then rg else rg ++ rs

def wevS (wl : WLv) (sc : Sc) (lk : List Nat) (σ : Sg) (e : Expr) : W Slot := fun Q X =>
  wl.ev sc (rhoOf (pick σ (nms e))) e (fun r => Q (slotOf (freshOf σ lk) (regsOf (pick σ (nms e))) r)) X

structure WXv where
  run : List Nat → Sg → Stmt → W Out

def wruns (x : WXv) (lk : List Nat) : Sg → List Stmt → W Out
  | σ, [] => wok (.next σ)
  | σ, st :: r => wbind (x.run lk σ st) fun o => match o with
    | .next σ' => wruns x lk σ' r
    | .ret v f => wok (.ret v f)
/-- a loop's turns; dom: the names that stand behind a turn -/
def wturns (x : WXv) (lk rs : List Nat) (dom : List Str) (tgt : Expr) (body : List Stmt) : Sg → List PyData → W Out
  | σ, [] => wok (.next σ)
  | σ, d :: r => wopt (bindT tgt d) fun β => wbind (wruns x lk (setAll β rs σ) body) fun o => match o with
      | .next σ' => wturns x lk rs dom tgt body (mask dom σ') r
      | .ret v f => wok (.ret v f)

def storable (sc : Sc) (y : Str) : Bool := sc.lookup y == some NameKind.local || sc.lookup y == some NameKind.cell
def tgtOk (sc : Sc) : Expr → Bool
  | .Name x _ => storable sc x
  | .Tuple es _ _ => es.all fun e => match e with | .Name x _ => storable sc x | _ => false
  | _ => false
def noRef : V → Bool
  | .dat .none | .dat (.bool _) | .dat (.int _) | .dat (.str _) => true
  | _ => false
def oddComp : Expr → Bool
  | .SetComp _ _ _ _ => true
  | .DictComp _ _ _ _ _ => true
  | _ => false
def isCall : Expr → Bool
  | .Call _ _ _ _ => true
  | _ => false

/-- behind an if without an else: the names that stood ahead of it -/
def masked (o : List Stmt) (dom : List Str) : Out → W Out
  | .next σ' => wok (.next (match o with | [] => mask dom σ' | _ => σ'))
  | .ret v f => wok (.ret v f)
/-- a handler's suite is run; it must return -/
def wcaught (xq : WXv) (lk : List Nat) (n c : Str) (σ : Sg) (hb : List Stmt) : W Out := fun Q X => wruns xq lk (setS n ⟨.exc c, [], none⟩ σ) hb (fun o => match o with | .ret v f => Q (.ret v f) | .next _ => False) fun _ => False

/-- x.append(e) -/
def appOf : Expr → Option (Str × Pos × Str × Pos × Expr × Pos)
  | .Call (.Attribute (.Name y py) m apos) [e] [] cpos => some (y, py, m, apos, e, cpos)
  | _ => none
def wappend (wl : WLv) (sc : Sc) (lk : List Nat) (σ : Sg) (y : Str) (xs : List PyData) (rg : List Nat) (t : Nat) (e : Expr) : W Out := fun Q X =>
  (lk.contains t || decide (1048576 ≤ xs.length)) = false ∧ wevS wl sc lk σ e (fun sl => match sl.v with
    | .dat d => sl.regs.contains t = false ∧ Q (.next (setS y ⟨.dat (.list (xs ++ [d])), joinRg (freshOf σ lk) rg sl.regs, some t⟩ (killS t σ)))
    | .exc _ => False) X
def ownList : Slot → Option (List PyData × List Nat × Nat)
  | ⟨.dat (.list xs), rg, some t⟩ => some (xs, rg, t)
  | _ => none
/-- raise C('..') -/
def raiseOf : Option Expr → Option Expr → Option (Str × Pos × Str × Nat × Pos × Pos)
  | some (.Call (.Name c p1) [.Constant (.str x) k p2] [] p3), none => some (c, p1, x, k, p2, p3)
  | _, _ => none
/-- except C as n -/
def handOf : List ExceptHandler → Option (Str × Pos × Str × List Stmt × Pos)
  | [.ExceptHandler (some (.Name w p)) (some n) hb pos] => some (w, p, n, hb, pos)
  | _ => none
inductive TryBody where
  | ret (e : Expr) (p : Pos)
  | expr (e : Expr) (p : Pos)
  | ite (c e e' : Expr) (p p' q : Pos)
def tryOf : List Stmt → Option TryBody
  | [.Return (some e) p] => some (.ret e p)
  | [.Expr e p] => some (.expr e p)
  | [.If c [.Return (some e) p] [] q, .Return (some e') p'] => some (.ite c e e' p p' q)
  | _ => none

def wstepX (K : Cfg) (q : Bool) (wl : WLv) (xq : WXv) (sc : Sc) (x : WXv) : WXv where
  run lk σ st := match st with
    | .Assign ts e _ => (match ts with
      | [t] => wopt (nameOf t) fun y => wif (storable sc y.1 && !oddComp e) fun Q X => wevS wl sc lk σ e (fun sl => Q (.next (setS y.1 sl σ))) X
      | _ => wno)
    | .Expr e _ => (match appOf e with
      | some (y, _, m, apos, e, cpos) => wif (m == "append" && storable sc y && apos.endLine == cpos.line && !(y == "__debug__" || y == "__classdict__")) (wopt (σ.lookup y) fun s => wopt (ownList s) fun t => wappend wl sc lk σ y t.1 t.2.1 t.2.2 e)
      | none => wif (isCall e) fun Q X => wl.ev sc (rhoOf (pick σ (nms e))) e (fun r => noRef r.1 = true ∧ Q (.next σ)) X)
    | .If c b o _ => wbind (wl.cond sc (rhoOf (pick σ (nms c))) c) fun t => match t with | true => wbind (wruns x lk σ b) (masked o (σ.map (·.1))) | false => wruns x lk σ o
    | .Return e _ => (match e with
      | none => wok (.ret (.dat .none) true)
      | some e => fun Q X => wevS wl sc lk σ e (fun sl => Q (.ret sl.v (!sl.regs.contains 0))) X)
    | .For tgt it body els _ => (match els with
      | [] => wif (!q && tgtOk sc tgt) (wbind (witer K wl sc (rhoOf (pick σ (nms it))) (isTup tgt) it) fun ds =>
        wturns x (freshOf σ lk :: regsOf (pick σ (nms it)) ++ lk) (freshOf σ lk :: regsOf (pick σ (nms it))) (σ.map (·.1)) tgt body σ ds)
      | _ => wno)
    | .Raise a b _ => wopt (raiseOf a b) fun t => wif (!q && K.isCls t.1 && glob sc t.1) fun _ X => X t.1
    | .Try body hs els fin _ => (match els with
      | [] => (match fin with
        | [] => wopt (handOf hs) fun t => wif (!q && K.isCls t.1 && glob sc t.1 && sc.lookup t.2.2.1 == some NameKind.local && !t.2.2.2.1.isEmpty) (wopt (tryOf body) fun b => (match b with
          | .ret e _ => fun Q X => wevS wl sc lk σ e (fun sl => Q (.ret sl.v (!sl.regs.contains 0))) fun c => (K.isCls c && K.sub c t.1) = true ∧ wcaught xq lk t.2.2.1 c σ t.2.2.2.1 Q X
          | .ite c e e' _ _ _ => fun Q X => wl.cond sc (rhoOf (pick σ (nms c))) c (fun b => wevS wl sc lk σ (match b with | true => e | false => e') (fun sl => Q (.ret sl.v (!sl.regs.contains 0))) fun c => (K.isCls c && K.sub c t.1) = true ∧ wcaught xq lk t.2.2.1 c σ t.2.2.2.1 Q X) fun c => (K.isCls c && K.sub c t.1) = true ∧ wcaught xq lk t.2.2.1 c σ t.2.2.2.1 Q X
          | .expr e _ => fun Q X => isCall e = true ∧ wl.ev sc (rhoOf (pick σ (nms e))) e (fun r => noRef r.1 = true ∧ Q (.next σ)) fun c => (K.isCls c && K.sub c t.1) = true ∧ wcaught xq lk t.2.2.1 c σ t.2.2.2.1 Q X))
        | _ => wno)
      | _ => wno)
    | _ => wno

def wnoX : WXv := ⟨fun _ _ _ => wno⟩
def wxlev (K : Cfg) (q : Bool) (wl : WLv) (xq : WXv) (sc : Sc) : Nat → WXv
  | 0 => wnoX
  | n + 1 => wstepX K q wl xq sc (wxlev K q wl xq sc n)

/-- a def of the text -/
structure Fn where
  params : List Str
  names : Sc
  body : List Stmt
structure Prog where
  fns : List (Str × Fn)
  const : Str → Option PyData
  isCls : Str → Bool
  sub : Str → Str → Bool

def argSlots : List Str → List V → Option Sg
  | [], [] => some []
  | p :: ps, v :: vs => (argSlots ps vs).map ((p, ⟨v, if v.flat then [] else [0], none⟩) :: ·)
  | _, _ => none
def cfg (G : Prog) (call : Bool → Str → List V → W VB) : Cfg where
  call := call
  isFn f := (G.fns.lookup f).isSome
  const := G.const
  isCls := G.isCls
  sub := G.sub
/-- the statements of a block -/
def wblockX (K : Cfg) (q : Bool) (sc : Sc) : WXv := wxlev K q (wlev K q 40) (wxlev K true (wlev K true 40) wnoX sc 20) sc 20
def outV : Out → VB
  | .next _ => (.dat .none, true)
  | .ret v f => (v, f)
def pstep (G : Prog) (call : Bool → Str → List V → W VB) (q : Bool) (f : Str) (vs : List V) : W VB := wopt (G.fns.lookup f) fun fn => wopt (argSlots fn.params vs) fun σ => fun Q X => wruns (wblockX (cfg G call) q fn.names) [] σ fn.body (fun o => Q (outV o)) X
def pcallU (G : Prog) : Nat → Bool → Str → List V → W VB
  | 0 => fun _ _ _ => wno
  | n + 1 => pstep G (pcallU G n)
theorem pcall_ex : ∃ f : Prog → Nat → Bool → Str → List V → W VB, (∀ G, f G 0 = fun _ _ _ => wno) ∧ ∀ G n, f G (n + 1) = pstep G (f G n) := ⟨pcallU, fun _ => rfl, fun _ _ => rfl⟩
/-- what a call gives; the number: how deep calls may go (told by its two laws alone: the kernel is not to run it) -/
@[irreducible] noncomputable def pcall : Prog → Nat → Bool → Str → List V → W VB := Classical.choose pcall_ex
theorem pcall_zero (G : Prog) : pcall G 0 = fun _ _ _ => wno := by delta pcall; exact (Classical.choose_spec pcall_ex).1 G
theorem pcall_succ (G : Prog) (n : Nat) : pcall G (n + 1) = pstep G (pcall G n) := by delta pcall; exact (Classical.choose_spec pcall_ex).2 G n
theorem pcall_W {G : Prog} {n : Nat} {q : Bool} {f : Str} {vs : List V} {fn : Fn} {σ : Sg} {Q : VB → Prop} {X : Str → Prop} (h1 : G.fns.lookup f = some fn) (h2 : argSlots fn.params vs = some σ)
    (h : wruns (wblockX (cfg G (pcall G n)) q fn.names) [] σ fn.body (fun o => Q (outV o)) X) : pcall G (n + 1) q f vs Q X := by
  rw [pcall_succ]
  unfold pstep
  rw [h1]
  simp only [wopt]
  rw [h2]
  exact h

/-- a loop by what stands ahead of each turn -/
theorem turns_inv {x : WXv} {lk rs : List Nat} {dom : List Str} {tgt : Expr} {body : List Stmt} {Q : Out → Prop} {X : Str → Prop} (I : List PyData → Sg → Prop)
    (hstep : ∀ d r σ, I (d :: r) σ → ∀ R : Out → Prop, (∀ σ', I r (mask dom σ') → R (.next σ')) → (∀ v f, Q (.ret v f) → R (.ret v f)) → ∃ β, bindT tgt d = some β ∧ wruns x lk (setAll β rs σ) body R X)
    (hend : ∀ σ, I [] σ → Q (.next σ)) : ∀ ds σ, I ds σ → wturns x lk rs dom tgt body σ ds Q X
  | [], σ, h => hend σ h
  | d :: r, σ, h => by
    obtain ⟨β, hβ, h⟩ := hstep d r σ h (fun o => (match o with | .next σ' => wturns x lk rs dom tgt body (mask dom σ') r | .ret v f => wok (.ret v f)) Q X) (fun σ' hI => turns_inv I hstep hend r _ hI) (fun v f hq => hq)
    rw [wturns, hβ]
    exact h
/-- a statement, told by what stands behind it -/
theorem seq_inv {x : WXv} {lk : List Nat} {σ : Sg} {st : Stmt} {r : List Stmt} {Q : Out → Prop} {X : Str → Prop} (J : Sg → Prop)
    (h1 : ∀ R : Out → Prop, (∀ σ', J σ' → R (.next σ')) → (∀ v f, Q (.ret v f) → R (.ret v f)) → x.run lk σ st R X) (h2 : ∀ σ', J σ' → wruns x lk σ' r Q X) : wruns x lk σ (st :: r) Q X := by
  rw [wruns]
  exact h1 (fun o => (match o with | .next σ' => wruns x lk σ' r | .ret v f => wok (.ret v f)) Q X) h2 fun v f hq => hq
/-- the same, with the locked regions in sight -/
theorem seq_lk {x : WXv} {lk : List Nat} {σ : Sg} {st : Stmt} {r : List Stmt} {Q : Out → Prop} {X : Str → Prop} (J : List Nat → Sg → Prop)
    (h1 : ∀ R : Out → Prop, (∀ σ', J lk σ' → R (.next σ')) → (∀ v f, Q (.ret v f) → R (.ret v f)) → x.run lk σ st R X) (h2 : ∀ σ', J lk σ' → wruns x lk σ' r Q X) : wruns x lk σ (st :: r) Q X := seq_inv (J lk) h1 h2
theorem comp_map {wl : WLv} {sc : Sc} {ρ : Rho} {t : Expr} {ifs : List Expr} {elt : Expr} {α : Type} (f : α → PyData) (g : α → Option VB) : ∀ xs : List α,
    (∀ a ∈ xs, ∀ R : Option VB → Prop, R (g a) → ∃ β, bindT t (f a) = some β ∧ wtests wl sc (β ++ ρ) ifs (fun b => (b = true → wl.ev sc (β ++ ρ) elt (fun v => R (some v)) fun _ => False) ∧ (b = false → R none)) fun _ => False) →
    WComp wl sc ρ t ifs elt (xs.map f) (xs.filterMap g)
  | [], _ => rfl
  | a :: r, h => by
    have ih := comp_map f g r fun a ha => h a (.tail _ ha)
    refine h a (.head _) (fun o => match o with | some v => ∃ vs', WComp wl sc ρ t ifs elt (r.map f) vs' ∧ (a :: r).filterMap g = v :: vs' | none => WComp wl sc ρ t ifs elt (r.map f) ((a :: r).filterMap g)) ?_
    cases hg : g a with
    | none => simp only [List.filterMap_cons, hg]; exact ih
    | some v => simp only [List.filterMap_cons, hg]; exact ⟨_, ih, rfl⟩

theorem foldl_max : ∀ (l : List Nat) (k : Nat), k ≤ l.foldl Nat.max k ∧ ∀ r ∈ l, r ≤ l.foldl Nat.max k
  | [], k => ⟨Nat.le_refl _, fun _ m => nomatch m⟩
  | a :: l, k => by
    obtain ⟨h1, h2⟩ := foldl_max l (Nat.max k a)
    refine ⟨Nat.le_trans (Nat.le_max_left _ _) h1, fun r hr => ?_⟩
    rcases List.mem_cons.mp hr with rfl | hr
    · exact Nat.le_trans (Nat.le_max_right _ _) h1
    · exact h2 r hr
theorem least_spec (l : List Nat) : ∀ (n k : Nat), k ≠ 0 → (∀ r ∈ l, r ≠ leastFrom l n k) ∧ leastFrom l n k ≠ 0
  | 0, k, _ => by
    obtain ⟨h1, h2⟩ := foldl_max l k
    unfold leastFrom
    refine ⟨fun r hr => ?_, by omega⟩
    have := h2 r hr
    omega
  | n + 1, k, hk => by
    unfold leastFrom
    split
    · exact least_spec l n (k + 1) (by omega)
    · rename_i h
      refine ⟨fun r hr e => h ?_, hk⟩
      subst e
      exact List.contains_iff_mem.mpr hr
theorem fresh_lk {σ : Sg} {lk : List Nat} {r : Nat} (h : r ∈ lk) : r ≠ freshOf σ lk := (least_spec _ _ _ (by omega)).1 r (List.mem_append_left _ h)
theorem fresh_regs {σ : Sg} {lk : List Nat} {r : Nat} (h : r ∈ regsOf σ) : r ≠ freshOf σ lk := (least_spec _ _ _ (by omega)).1 r (List.mem_append_right _ h)
theorem fresh_pos {σ : Sg} {lk : List Nat} : freshOf σ lk ≠ 0 := (least_spec _ _ _ (by omega)).2

/-- the defs of a text -/
def fnsOf : List Stmt → List (Str × Fn)
  | .FunctionDef name args body _ _ _ scope _ _ _ :: r => (name, ⟨args.args.map (·.arg), scope.names, body⟩) :: fnsOf r
  | _ :: r => fnsOf r
  | [] => []
/-- the classes of a text, each with its base -/
def clsOf : List Stmt → List (Str × Str)
  | .ClassDef name [.Name b _] _ _ _ _ _ _ _ _ _ :: r => (name, b) :: clsOf r
  | _ :: r => clsOf r
  | [] => []
/-- numbers that the text names -/
def constsOf : List Stmt → List (Str × PyData)
  | .Assign [.Name x _] (.Constant (.int i) _ _) _ :: r => (x, .int i) :: constsOf r
  | _ :: r => constsOf r
  | [] => []
/-- c is w or goes back to it, in n steps or fewer -/
def subIn (cs : List (Str × Str)) : Nat → Str → Str → Bool
  | 0, c, w => c == w
  | n + 1, c, w => c == w || (match cs.lookup c with | some b => subIn cs n b w | none => false)
def progOf (body : List Stmt) : Prog where
  fns := fnsOf body
  const x := (constsOf body).lookup x
  isCls x := ((clsOf body).lookup x).isSome
  sub c w := subIn (clsOf body) 4 c w

end Mine
end

section
set_option linter.unusedVariables false
namespace Mine
open PySem
variable {Z Z' : Addr → Prop}

/-- everything of h stands in h'; frames (their addresses: fs) up to their slots -/
structure Keep (fs : List Addr) (h h' : Heap) : Prop where
  size : h.objs.size ≤ h'.objs.size
  other : ∀ b o, h.get? b = some o → b ∉ fs → h'.get? b = some o
  slots : ∀ b o, h.get? b = some o → ∃ sl, h'.get? b = some { o with slots := sl }

theorem Keep.refl (fs : List Addr) (h : Heap) : Keep fs h h := ⟨Nat.le_refl _, fun _ _ e _ => e, fun _ o e => ⟨o.slots, e⟩⟩
theorem Keep.trans {fs : List Addr} {h h' h'' : Heap} (x : Keep fs h h') (y : Keep fs h' h'') : Keep fs h h'' :=
  ⟨Nat.le_trans x.size y.size, fun b o e n => y.other b o (x.other b o e n) n, fun b o e => let ⟨_, e1⟩ := x.slots b o e; let ⟨s2, e2⟩ := y.slots b _ e1; ⟨s2, e2⟩⟩
theorem size_le_of_keeps {h h' : Heap} (hk : ∀ b o, h.get? b = some o → h'.get? b = some o) (hs : h.objs.size ≤ h'.objs.size) (fs : List Addr) : Keep fs h h' :=
  ⟨hs, fun b o e _ => hk b o e, fun b o e => ⟨o.slots, hk b o e⟩⟩
theorem push_stays (h : Heap) (o : Obj) : h.StaysIn (h.push o) := fun b o' e => Heap.get?_push_of_some o e
theorem Keep.push (fs : List Addr) (h : Heap) (o : Obj) : Keep fs h (h.push o) := size_le_of_keeps (push_stays h o) (by rw [Heap.size_push]; omega) fs
theorem Keep.ns {fs : List Addr} {h h' : Heap} (x : Keep fs h h') {a : Addr} {m : Str → Option Value} (n : h.Ns a m) : h'.Ns a m :=
  let ⟨o, es, ep, ho, hd, r⟩ := n; let ⟨_, e⟩ := x.slots a o ho; ⟨_, es, ep, e, hd, r⟩
theorem Keep.cell {fs : List Addr} {h h' : Heap} (x : Keep fs h h') {c : Addr} {v : Option Value} (n : h.IsCell c v) : h'.IsCell c v :=
  let ⟨o, ho, hd⟩ := n; let ⟨_, e⟩ := x.slots c o ho; ⟨_, e, hd⟩

/-- the object of a plain tuple -/
abbrev tupObj (vs : Array Value) (n : Nat) : Obj := { cls := .type "tuple", data := .seq vs n }
abbrev lstObj (vs : Array Value) (n : Nat) : Obj := { cls := .type "list", data := .seq vs n }

mutual
/-- a value in a heap: its data; where its lists and dicts lie; Z: tuples that may yet turn -/
inductive Rd (Z : Addr → Prop) (h : Heap) : Value → PyData → List Addr → Prop
  | none : Rd Z h .none .none []
  | bool (b) : Rd Z h (.bool b) (.bool b) []
  | int (i t) : Rd Z h (.int i t) (.int i) []
  | str (x t) : Rd Z h (.str x t) (.str x) []
  | list {a vs n xs as} : h.get? a = some (lstObj vs n) → vs.size ≤ sizeLine → RdAll Z h vs.toList xs as → Rd Z h (.ref a) (.list xs) (a :: as)
  | tuple {a vs n xs as} : ¬ Z a → h.get? a = some (tupObj vs n) → vs.size ≤ sizeLine → RdAll Z h vs.toList xs as → Rd Z h (.ref a) (.tuple xs) as
  | dict {a o n} : h.get? a = some o → o.cls = .type "dict" → o.data = .dict #[] n → Rd Z h (.ref a) (.dict []) [a]
inductive RdAll (Z : Addr → Prop) (h : Heap) : List Value → List PyData → List Addr → Prop
  | nil : RdAll Z h [] [] []
  | cons {v vs d ds as bs} : Rd Z h v d as → RdAll Z h vs ds bs → RdAll Z h (v :: vs) (d :: ds) (as ++ bs)
end

/-- what is shown of both by one induction -/
theorem Rd.ind {h : Heap} {M : Value → PyData → List Addr → Prop} {N : List Value → List PyData → List Addr → Prop} (m1 : M .none .none []) (m2 : ∀ b, M (.bool b) (.bool b) []) (m3 : ∀ i t, M (.int i t) (.int i) []) (m4 : ∀ x t, M (.str x t) (.str x) [])
    (m5 : ∀ a vs n xs as, h.get? a = some (lstObj vs n) → vs.size ≤ sizeLine → RdAll Z h vs.toList xs as → N vs.toList xs as → M (.ref a) (.list xs) (a :: as))
    (m6 : ∀ a vs n xs as, ¬ Z a → h.get? a = some (tupObj vs n) → vs.size ≤ sizeLine → RdAll Z h vs.toList xs as → N vs.toList xs as → M (.ref a) (.tuple xs) as)
    (m7 : ∀ a o n, h.get? a = some o → o.cls = .type "dict" → o.data = .dict #[] n → M (.ref a) (.dict []) [a])
    (n1 : N [] [] []) (n2 : ∀ v vs d ds as bs, Rd Z h v d as → RdAll Z h vs ds bs → M v d as → N vs ds bs → N (v :: vs) (d :: ds) (as ++ bs)) :
    (∀ {v d as}, Rd Z h v d as → M v d as) ∧ ∀ {vs ds as}, RdAll Z h vs ds as → N vs ds as :=
  ⟨fun r => Rd.rec (motive_1 := fun v d as _ => M v d as) (motive_2 := fun v d as _ => N v d as) m1 m2 m3 m4 (fun e z r i => m5 _ _ _ _ _ e z r i) (fun nz e z r i => m6 _ _ _ _ _ nz e z r i) (fun e c d => m7 _ _ _ e c d) n1 (fun a b i j => n2 _ _ _ _ _ _ a b i j) r,
   fun r => RdAll.rec (motive_1 := fun v d as _ => M v d as) (motive_2 := fun v d as _ => N v d as) m1 m2 m3 m4 (fun e z r i => m5 _ _ _ _ _ e z r i) (fun nz e z r i => m6 _ _ _ _ _ nz e z r i) (fun e c d => m7 _ _ _ e c d) n1 (fun a b i j => n2 _ _ _ _ _ _ a b i j) r⟩

theorem reads_both {h : Heap} : (∀ {v d as}, Rd Z h v d as → Reads h v d as) ∧ ∀ {vs ds as}, RdAll Z h vs ds as → ReadsAll h vs ds as :=
  Rd.ind .none .bool .int .str (fun _ _ _ _ _ e _ _ r => .list e rfl rfl r) (fun _ _ _ _ _ _ e _ _ r => .tuple e rfl rfl r) (fun _ _ _ e c d => .dict (kvs := []) e c d .nil .nil) .nil fun _ _ _ _ _ _ _ _ a b => .cons a b
theorem Rd.reads {h : Heap} {v : Value} {d : PyData} {as : List Addr} (r : Rd Z h v d as) : Reads h v d as := reads_both.1 r

/-- frames are dicts -/
def FramesIn (fs : List Addr) (h : Heap) : Prop := ∀ b ∈ fs, ∃ o es ep, h.get? b = some o ∧ o.data = .dict es ep
theorem FramesIn.keep {fs : List Addr} {h h' : Heap} (x : FramesIn fs h) (k : Keep fs h h') : FramesIn fs h' := fun b hb =>
  let ⟨o, es, ep, ho, hd⟩ := x b hb; let ⟨_, e⟩ := k.slots b o ho; ⟨_, es, ep, e, hd⟩
theorem FramesIn.not_seq {fs : List Addr} {h : Heap} (x : FramesIn fs h) {a : Addr} {o : Obj} {vs : Array Value} {n : Nat} (e : h.get? a = some o) (hd : o.data = .seq vs n) : a ∉ fs := fun m => by
  obtain ⟨o', es, ep, ho, hd'⟩ := x a m
  rw [e] at ho; cases ho
  rw [hd] at hd'; cases hd'

/-- what is read there is read here -/
structure Moves (Z Z' : Addr → Prop) (h h' : Heap) (S : Addr → Prop) : Prop where
  tup : ∀ a vs n, ¬ Z a → h.get? a = some (tupObj vs n) → ¬ Z' a ∧ h'.get? a = some (tupObj vs n)
  lst : ∀ a, S a → ∀ vs n, h.get? a = some (lstObj vs n) → h'.get? a = some (lstObj vs n)
  dct : ∀ a, S a → ∀ o n, h.get? a = some o → o.data = .dict #[] n → ∃ sl, h'.get? a = some { o with slots := sl }
theorem move_both {h h' : Heap} {S : Addr → Prop} (k : Moves Z Z' h h' S) : (∀ {v d as}, Rd Z h v d as → (∀ a ∈ as, S a) → Rd Z' h' v d as) ∧ ∀ {vs ds as}, RdAll Z h vs ds as → (∀ a ∈ as, S a) → RdAll Z' h' vs ds as :=
  Rd.ind (M := fun v d as => (∀ a ∈ as, S a) → Rd Z' h' v d as) (N := fun v d as => (∀ a ∈ as, S a) → RdAll Z' h' v d as) (fun _ => .none) (fun b _ => .bool b) (fun i t _ => .int i t) (fun x t _ => .str x t) (fun _ _ _ _ _ e z _ r s => .list (k.lst _ (s _ (.head _)) _ _ e) z (r fun a ha => s a (.tail _ ha)))
    (fun _ _ _ _ _ nz e z _ r s => let ⟨z', e'⟩ := k.tup _ _ _ nz e; .tuple z' e' z (r s)) (fun _ _ _ e c d s => let ⟨_, e'⟩ := k.dct _ (s _ (.head _)) _ _ e d; .dict e' c d)
    (fun _ => .nil) fun _ _ _ _ _ _ _ _ a b s => .cons (a fun x hx => s x (List.mem_append_left _ hx)) (b fun x hx => s x (List.mem_append_right _ hx))
theorem Rd.move {h h' : Heap} {S : Addr → Prop} (k : Moves Z Z' h h' S) {v : Value} {d : PyData} {as : List Addr} (r : Rd Z h v d as) (s : ∀ a ∈ as, S a) : Rd Z' h' v d as := (move_both k).1 r s
theorem RdAll.move {h h' : Heap} {S : Addr → Prop} (k : Moves Z Z' h h' S) {v : List Value} {d : List PyData} {as : List Addr} (r : RdAll Z h v d as) (s : ∀ a ∈ as, S a) : RdAll Z' h' v d as := (move_both k).2 r s

theorem Keep.moves {fs : List Addr} {h h' : Heap} (F : FramesIn fs h) (k : Keep fs h h') : Moves Z Z h h' fun _ => True :=
  ⟨fun _ _ _ nz e => ⟨nz, k.other _ _ e (F.not_seq e rfl)⟩, fun _ _ _ _ e => k.other _ _ e (F.not_seq e rfl), fun _ _ _ _ e _ => k.slots _ _ e⟩
theorem stays_moves {h h' : Heap} (k : h.StaysIn h') : Moves Z Z h h' fun _ => True := ⟨fun _ _ _ nz e => ⟨nz, k _ _ e⟩, fun _ _ _ _ e => k _ _ e, fun _ _ o _ e _ => ⟨o.slots, k _ _ e⟩⟩
theorem bar_moves {h : Heap} (hz : ∀ a, a < h.objs.size → Z' a → Z a) : Moves Z Z' h h fun _ => True := ⟨fun _ _ _ nz e => ⟨fun q => nz (hz _ (Heap.lt_size e) q), e⟩, fun _ _ _ _ e => e, fun _ _ o _ e _ => ⟨o.slots, e⟩⟩
theorem Rd.keep {fs : List Addr} {h h' : Heap} (F : FramesIn fs h) (k : Keep fs h h') {v : Value} {d : PyData} {as : List Addr} (r : Rd Z h v d as) : Rd Z h' v d as := r.move (k.moves F) fun _ _ => trivial
theorem RdAll.keep {fs : List Addr} {h h' : Heap} (F : FramesIn fs h) (k : Keep fs h h') {v : List Value} {d : List PyData} {as : List Addr} (r : RdAll Z h v d as) : RdAll Z h' v d as := r.move (k.moves F) fun _ _ => trivial
theorem RdAll.stays {h h' : Heap} (k : h.StaysIn h') {v : List Value} {d : List PyData} {as : List Addr} (r : RdAll Z h v d as) : RdAll Z h' v d as := r.move (stays_moves k) fun _ _ => trivial

theorem lt_both {h : Heap} : (∀ {v d as}, Rd Z h v d as → ∀ a ∈ as, a < h.objs.size) ∧ ∀ {vs ds as}, RdAll Z h vs ds as → ∀ a ∈ as, a < h.objs.size :=
  Rd.ind (M := fun _ _ as => ∀ a ∈ as, a < h.objs.size) (N := fun _ _ as => ∀ a ∈ as, a < h.objs.size) (fun _ m => nomatch m) (fun _ _ m => nomatch m) (fun _ _ _ m => nomatch m) (fun _ _ _ m => nomatch m)
    (fun _ _ _ _ _ e _ _ r a m => (List.mem_cons.mp m).elim (fun q => q ▸ Heap.lt_size e) (r a)) (fun _ _ _ _ _ _ _ _ _ r => r) (fun _ _ _ e _ _ a m => List.mem_singleton.mp m ▸ Heap.lt_size e)
    (fun _ m => nomatch m) fun _ _ _ _ _ _ _ _ x y a m => (List.mem_append.mp m).elim (x a) (y a)
theorem Rd.lt {h : Heap} {v : Value} {d : PyData} {as : List Addr} (r : Rd Z h v d as) : ∀ a ∈ as, a < h.objs.size := lt_both.1 r
theorem RdAll.lt {h : Heap} {v : List Value} {d : List PyData} {as : List Addr} (r : RdAll Z h v d as) : ∀ a ∈ as, a < h.objs.size := lt_both.2 r

theorem flat_both {h : Heap} : (∀ {v d as}, Rd Z h v d as → flat d = true → as = []) ∧ ∀ {vs ds as}, RdAll Z h vs ds as → flatAll ds = true → as = [] :=
  Rd.ind (M := fun _ d as => flat d = true → as = []) (N := fun _ d as => flatAll d = true → as = []) (fun _ => rfl) (fun _ _ => rfl) (fun _ _ _ => rfl) (fun _ _ _ => rfl) (fun _ _ _ _ _ _ _ _ _ f => Bool.noConfusion (show false = true by simpa [flat] using f))
    (fun _ _ _ _ _ _ _ _ _ r f => r (by simpa [flat] using f)) (fun _ _ _ _ _ _ f => Bool.noConfusion (show false = true by simpa [flat] using f)) (fun _ => rfl)
    fun _ _ _ _ _ _ _ _ x y f => by
      have f := Bool.and_eq_true_iff.mp (show (flat _ && flatAll _) = true by simpa [flatAll] using f)
      rw [x f.1, y f.2]; rfl
theorem Rd.flat_nil {h : Heap} {v : Value} {d : PyData} {as : List Addr} (r : Rd Z h v d as) (f : flat d = true) : as = [] := flat_both.1 r f
theorem RdAll.flat_nil {h : Heap} {v : List Value} {d : List PyData} {as : List Addr} (r : RdAll Z h v d as) (f : flatAll d = true) : as = [] := flat_both.2 r f

theorem RdAll.length {h : Heap} {vs : List Value} {ds : List PyData} {as : List Addr} (r : RdAll Z h vs ds as) : vs.length = ds.length :=
  (Rd.ind (M := fun _ _ _ => True) (N := fun v d _ => v.length = d.length) trivial (fun _ => trivial) (fun _ _ => trivial) (fun _ _ => trivial) (fun _ _ _ _ _ _ _ _ _ => trivial) (fun _ _ _ _ _ _ _ _ _ _ => trivial) (fun _ _ _ _ _ _ => trivial) rfl fun _ _ _ _ _ _ _ _ _ i => by rw [List.length_cons, List.length_cons, i]).2 r
theorem RdAll.append {h : Heap} {vs ws : List Value} {ds es : List PyData} {as bs : List Addr} (r : RdAll Z h vs ds as) (k : RdAll Z h ws es bs) : RdAll Z h (vs ++ ws) (ds ++ es) (as ++ bs) :=
  (Rd.ind (Z := Z) (h := h) (M := fun _ _ _ => True) (N := fun v d a => RdAll Z h (v ++ ws) (d ++ es) (a ++ bs)) trivial (fun _ => trivial) (fun _ _ => trivial) (fun _ _ => trivial) (fun _ _ _ _ _ _ _ _ _ => trivial) (fun _ _ _ _ _ _ _ _ _ _ => trivial) (fun _ _ _ _ _ _ => trivial) k fun _ _ _ _ _ _ a _ _ i => by rw [List.append_assoc]; exact .cons a i).2 r
/-- an item of a row -/
inductive Got (Z : Addr → Prop) (h : Heap) (as : List Addr) (d : PyData) (o : Option Value) : Prop
  | mk (v : Value) (bs : List Addr) (e : o = some v) (r : Rd Z h v d bs) (s : ∀ a ∈ bs, a ∈ as)
theorem RdAll.get {h : Heap} {vs : List Value} {ds : List PyData} {as : List Addr} (r : RdAll Z h vs ds as) : ∀ (k : Nat) (d : PyData), ds[k]? = some d → Got Z h as d vs[k]? :=
  (Rd.ind (M := fun _ _ _ => True) (N := fun v d a => ∀ (k : Nat) (x : PyData), d[k]? = some x → Got Z h a x v[k]?) trivial (fun _ => trivial) (fun _ _ => trivial) (fun _ _ => trivial) (fun _ _ _ _ _ _ _ _ _ => trivial) (fun _ _ _ _ _ _ _ _ _ _ => trivial) (fun _ _ _ _ _ _ => trivial)
    (fun k x e => by simp at e) fun v vs d ds as bs a _ _ i k x e => by
      cases k with
      | zero => cases e; exact ⟨v, as, rfl, a, fun x hx => List.mem_append_left _ hx⟩
      | succ k =>
        obtain ⟨v, bs, e1, e2, e3⟩ := i k x e
        exact ⟨v, bs, e1, e2, fun x hx => List.mem_append_right _ (e3 x hx)⟩).2 r

/-- one value, one data -/
theorem det_both {h : Heap} : (∀ {v d as}, Rd Z h v d as → ∀ d' as', Rd Z h v d' as' → d = d') ∧ ∀ {vs ds as}, RdAll Z h vs ds as → ∀ ds' as', RdAll Z h vs ds' as' → ds = ds' :=
  Rd.ind (M := fun v d _ => ∀ d' as', Rd Z h v d' as' → d = d') (N := fun v d _ => ∀ d' as', RdAll Z h v d' as' → d = d') (fun _ _ r => by cases r; rfl) (fun _ _ _ r => by cases r; rfl) (fun _ _ _ _ r => by cases r; rfl) (fun _ _ _ _ r => by cases r; rfl)
    (fun _ _ _ _ _ e _ _ i _ _ r => by
      cases r with
      | list e' _ r => rw [e] at e'; cases e'; rw [i _ _ r]
      | tuple _ e' => rw [e] at e'; have := congrArg (fun o : Option Obj => o.map (·.cls)) e'; simp at this
      | dict e' c => rw [e] at e'; cases e'; simp at c)
    (fun _ _ _ _ _ _ e _ _ i _ _ r => by
      cases r with
      | list e' _ r => rw [e] at e'; have := congrArg (fun o : Option Obj => o.map (·.cls)) e'; simp at this
      | tuple _ e' _ r => rw [e] at e'; cases e'; rw [i _ _ r]
      | dict e' c => rw [e] at e'; cases e'; simp at c)
    (fun _ _ _ e c _ _ _ r => by
      cases r with
      | list e' => rw [e] at e'; cases e'; simp at c
      | tuple _ e' => rw [e] at e'; cases e'; simp at c
      | dict => rfl)
    (fun _ _ r => by cases r; rfl) fun _ _ _ _ _ _ _ _ i j _ _ r => by cases r with | cons a b => rw [i _ _ a, j _ _ b]

/-- data within data -/
inductive Sub (Z : Addr → Prop) (h : Heap) (a : Addr) (n : Nat) : Prop
  | mk (d : PyData) (as : List Addr) (r : Rd Z h (.ref a) d as) (l : sizeOf d ≤ n)
theorem sub_both {h : Heap} : (∀ {v d as}, Rd Z h v d as → ∀ a ∈ as, Sub Z h a (sizeOf d)) ∧ ∀ {vs ds as}, RdAll Z h vs ds as → ∀ a ∈ as, Sub Z h a (sizeOf ds) :=
  have up : ∀ {a n m}, Sub Z h a n → n ≤ m → Sub Z h a m := fun ⟨d, as, r, l⟩ k => ⟨d, as, r, Nat.le_trans l k⟩
  Rd.ind (M := fun _ d as => ∀ a ∈ as, Sub Z h a (sizeOf d)) (N := fun _ d as => ∀ a ∈ as, Sub Z h a (sizeOf d)) (fun _ m => nomatch m) (fun _ _ m => nomatch m) (fun _ _ _ m => nomatch m) (fun _ _ _ m => nomatch m)
    (fun _ _ _ _ _ e z r i a m => (List.mem_cons.mp m).elim (fun q => by subst q; exact ⟨_, _, .list e z r, Nat.le_refl _⟩) fun m => up (i a m) (by rw [PyData.list.sizeOf_spec]; omega))
    (fun _ _ _ _ _ _ _ _ _ i a m => up (i a m) (by rw [PyData.tuple.sizeOf_spec]; omega)) (fun _ _ _ e c d a m => by cases List.mem_singleton.mp m; exact ⟨_, _, .dict e c d, Nat.le_refl _⟩)
    (fun _ m => nomatch m) fun _ _ _ _ _ _ _ _ x y a m => (List.mem_append.mp m).elim (fun m => up (x a m) (by rw [List.cons.sizeOf_spec]; omega)) fun m => up (y a m) (by rw [List.cons.sizeOf_spec]; omega)
/-- no list bears itself -/
theorem Rd.noself {h : Heap} {a : Addr} {vs : Array Value} {m : Nat} {xs : List PyData} {as : List Addr} (e : h.get? a = some (lstObj vs m)) (z : vs.size ≤ sizeLine) (r : RdAll Z h vs.toList xs as) : a ∉ as := fun hm => by
  obtain ⟨d', as', h1, h2⟩ := sub_both.2 r a hm
  have := det_both.1 h1 _ _ (.list e z r)
  subst this
  rw [PyData.list.sizeOf_spec] at h2
  omega

/-- everything stands but what is named; frames up to their slots -/
structure KeepB (fs : List Addr) (ws : Addr → Prop) (h h' : Heap) : Prop where
  size : h.objs.size ≤ h'.objs.size
  other : ∀ b o, h.get? b = some o → b ∉ fs → ¬ ws b → h'.get? b = some o
  slots : ∀ b o, h.get? b = some o → ¬ ws b → ∃ sl, h'.get? b = some { o with slots := sl }
namespace KeepB
variable {fs : List Addr} {ws : Addr → Prop} {h h' h'' : Heap}
theorem refl : KeepB fs ws h h := ⟨Nat.le_refl _, fun _ _ e _ _ => e, fun _ o e _ => ⟨o.slots, e⟩⟩
theorem trans (x : KeepB fs ws h h') (y : KeepB fs ws h' h'') : KeepB fs ws h h'' :=
  ⟨Nat.le_trans x.size y.size, fun b o e n m => y.other b o (x.other b o e n m) n m, fun b o e m => let ⟨_, e1⟩ := x.slots b o e m; let ⟨s2, e2⟩ := y.slots b _ e1 m; ⟨s2, e2⟩⟩
theorem ofKeep (k : Keep fs h h') : KeepB fs ws h h' := ⟨k.size, fun b o e n _ => k.other b o e n, fun b o e _ => k.slots b o e⟩
theorem exact (hs : h.objs.size ≤ h'.objs.size) (k : ∀ b o, ¬ ws b → h.get? b = some o → h'.get? b = some o) : KeepB fs ws h h' :=
  ⟨hs, fun b o e _ m => k b o m e, fun b o e m => ⟨o.slots, k b o m e⟩⟩
theorem mono {ws' : Addr → Prop} (x : KeepB fs ws h h') (hw : ∀ b, b < h.objs.size → ws b → ws' b) : KeepB fs ws' h h' :=
  ⟨x.size, fun b o e n m => x.other b o e n fun q => m (hw b (Heap.lt_size e) q), fun b o e m => x.slots b o e fun q => m (hw b (Heap.lt_size e) q)⟩
theorem toKeep (x : KeepB fs ws h h') (hw : ∀ b, b < h.objs.size → ¬ ws b) : Keep fs h h' :=
  ⟨x.size, fun b o e n => x.other b o e n (hw b (Heap.lt_size e)), fun b o e => x.slots b o e (hw b (Heap.lt_size e))⟩
theorem moves (k : KeepB fs ws h h') (F : FramesIn fs h) (ht : ∀ a, ws a → ¬ Z a → ∀ vs n, h.get? a ≠ some (tupObj vs n)) : Moves Z Z h h' fun a => ¬ ws a :=
  ⟨fun _ _ _ nz e => ⟨nz, k.other _ _ e (F.not_seq e rfl) fun q => ht _ q nz _ _ e⟩, fun _ s _ _ e => k.other _ _ e (F.not_seq e rfl) s, fun _ s _ _ e _ => k.slots _ _ e s⟩
end KeepB

theorem update_size (h : Heap) (a : Addr) (f : Obj → Obj) : (h.update a f).objs.size = h.objs.size := Heap.size_after_update ..
/-- the heap never gets shorter -/
theorem runs_size {M : Model} {Γ : Ctx} {p : Pos} {t : Sem Fin} {fs : List Frame} {s s' : Shared} {e : End} (h : Runs M Γ p t fs s e s') : s.heap.objs.size ≤ s'.heap.objs.size := by
  induction h <;> (try simp only [Shared.setGen, update_size, Heap.size_push] at *) <;> omega
theorem wakes_size {M : Model} {Γ : Ctx} {p : Pos} {g : Nat} {r : Resume} {s s' : Shared} {res : GenResult} (h : Wakes M Γ p g r s res s') : s.heap.objs.size ≤ s'.heap.objs.size := by
  unfold Wakes at h
  split at h
  · exact h.elim
  · split at h
    · obtain ⟨e₁, s₁, hr, _, _, rfl⟩ := h; exact (runs_size hr : (s.setGen g .running).heap.objs.size ≤ s₁.heap.objs.size)
    · rw [h.2]; exact Nat.le_refl _
    · rw [h.2]; exact Nat.le_refl _
  · obtain ⟨e₁, s₁, hr, _, _, rfl⟩ := h; exact (runs_size hr : (s.setGen g .running).heap.objs.size ≤ s₁.heap.objs.size)
  · rw [h.2]; exact Nat.le_refl _
  · rw [h.2]; exact Nat.le_refl _
theorem wp_size {α : Type} (M : Model) (Γ : Ctx) (n : Nat) (t : Sem α) : ∀ (Q : α → Pos → Shared → Prop) (E : Value → Pos → Shared → Prop) (p : Pos) (s : Shared), n ≤ s.heap.objs.size → Sem.wp M Γ t Q E p s →
    Sem.wp M Γ t (fun a p' s' => n ≤ s'.heap.objs.size ∧ Q a p' s') (fun e p' s' => n ≤ s'.heap.objs.size ∧ E e p' s') p s := by
  induction t with
  | pure a => exact fun Q E p s hn h => ⟨hn, h⟩
  | raise e => exact fun Q E p s hn h => ⟨hn, h⟩
  | unsupported _ | finish _ | register _ _ | yield _ _ _ _ | fork _ _ | await _ _ _ _ _ => exact fun Q E p s _ h => h
  | rule _ k ih | point _ k ih => exact fun Q E p s hn h => ih () Q E p s hn h
  | «at» p' k ih => exact fun Q E p s hn h => ih () Q E p' s hn h
  | load a _ k ih => exact fun Q E p s hn ⟨o, ho, h⟩ => ⟨o, ho, ih o Q E p s hn h⟩
  | update a _ f k ih => exact fun Q E p s hn h => ⟨h.1, ih () Q E p _ (by rw [update_size]; exact hn) h.2⟩
  | loadIfAlive a k ih => exact fun Q E p s hn h => ih _ Q E p s hn h
  | alloc o k ih => exact fun Q E p s hn h => ih _ Q E p _ (by simp only [Heap.size_push]; omega) h
  | fresh k ih | os _ _ k ih | newGen _ k ih => exact fun Q E p s hn h => ih _ Q E p _ hn h
  | ask k ih | handled _ k ih | stack k ih | thread k ih => exact fun Q E p s hn h => ih _ Q E p s hn h
  | choose src m k ih => exact fun Q E p s hn h => ⟨h.1, ih _ Q E p _ hn h.2⟩
  | call c hd _ _ k ih => exact fun Q E p s hn ⟨r, s', hr, h⟩ => ⟨r, s', hr, ih r Q E p s' (Nat.le_trans hn (runs_size hr)) h⟩
  | genState g k ih => exact fun Q E p s hn ⟨st, hs, h⟩ => ⟨st, hs, ih _ Q E p s hn h⟩
  | resume g r _ k ih => exact fun Q E p s hn ⟨res, s', hw, h⟩ => ⟨res, s', hw, ih res Q E p s' (Nat.le_trans hn (wakes_size hw)) h⟩
theorem wpAny_size {α : Type} {M : Model} {A : Around} {s : Shared} {t : Sem α} {Q : α → Shared → Prop} {E : Value → Shared → Prop} (h : wpAny M A t Q E s) :
    wpAny M A t (fun a s' => s.heap.objs.size ≤ s'.heap.objs.size ∧ Q a s') (fun e s' => s.heap.objs.size ≤ s'.heap.objs.size ∧ E e s') s :=
  fun Γ p hΓ => wp_size M Γ s.heap.objs.size t _ _ p s (Nat.le_refl _) (h Γ p hΓ)
theorem wpAny_sized {α : Type} {M : Model} {A : Around} {s : Shared} {t : Sem α} {Q : α → Shared → Prop} {E : Value → Shared → Prop}
    (h : wpAny M A t (fun a s' => s.heap.objs.size ≤ s'.heap.objs.size → Q a s') (fun e s' => s.heap.objs.size ≤ s'.heap.objs.size → E e s') s) : wpAny M A t Q E s :=
  wpAny_mono (wpAny_size h) (fun _ _ x => x.2 x.1) fun _ _ x => x.2 x.1

end Mine
end

section
set_option linter.unusedVariables false
namespace Mine
open PySem
variable {Z : Addr → Prop}

structure Cx where
  prog : Program
  w : World
  hb : Heap
  mg : Str → Option Value
  mb : Str → Option Value
  K : Cfg
  cls : Str → Addr
/-- around an expression: within a handler or not; how deep calls may go -/
structure Bx where
  C : Cx
  q : Bool
  A : Around
  n : Nat
abbrev Bx.M (X : Bx) : Model := model X.C.prog X.C.w

/-- an exception of the text's class c -/
inductive IsExc (cls : Str → Addr) (h : Heap) (v : Value) (c : Str) : Prop
  | mk (a : Addr) (o : Obj) (vs : Array Value) (e : v = .ref a) (ho : h.get? a = some o) (dn : o.dict = none) (hc : o.cls = .ref (cls c)) (hd : o.data = .fields vs)
/-- a value in a heap -/
def VR (C : Cx) (Z : Addr → Prop) (h : Heap) (v : Value) : V → List Addr → Prop
  | .dat d, as => Rd Z h v d as
  | .exc c, as => as = [] ∧ IsExc C.cls h v c
theorem VR.keep {C : Cx} {fs : List Addr} {h h' : Heap} (F : FramesIn fs h) (k : Keep fs h h') {v : Value} {x : V} {as : List Addr} (r : VR C Z h v x as) : VR C Z h' v x as := by
  cases x with
  | dat d => exact Rd.keep F k r
  | exc c => exact ⟨r.1, let ⟨a, o, vs, hv, ho, dn, hc, hd⟩ := r.2; let ⟨_, e'⟩ := k.slots a o ho; ⟨a, _, vs, hv, e', dn, hc, hd⟩⟩
theorem VR.lt {C : Cx} {h : Heap} {v : Value} {x : V} {as : List Addr} (r : VR C Z h v x as) : ∀ a ∈ as, a < h.objs.size := by
  cases x with
  | dat d => exact Rd.lt r
  | exc c => rw [r.1]; exact fun _ m => nomatch m
theorem VR.flat_nil {C : Cx} {h : Heap} {v : Value} {x : V} {as : List Addr} (r : VR C Z h v x as) (f : x.flat = true) : as = [] := by
  cases x with
  | dat d => exact Rd.flat_nil r f
  | exc c => exact r.1

def fsOf (A : Around) : List Addr := (A.frames.getD []).filterMap (·.frame)
/-- a traceback's first row: where the exception is on its way -/
inductive RowAt (h₀ h' : Heap) (L : Option Addr) (a : Addr) (v : Option Value) : Prop
  | mk (T : Addr) (oT : Obj) (ts : Array Value) (x : Value) (e : v = some (.ref T)) (n : h₀.get? T = none) (ne : T ≠ a) (ho : h'.get? T = some oT) (hd : oT.data = .fields ts) (h3 : ts[3]? = some x) (hx : x = .none ∨ ∃ l, L = some l ∧ x = rawInt l)
/-- an exception of the text's class c, new over h₀, flies in the frame L -/
inductive Fly (cls : Str → Addr) (h₀ h' : Heap) (L : Option Addr) (c : Str) (e : Value) : Prop
  | mk (a : Addr) (oe : Obj) (vs : Array Value) (e1 : e = .ref a) (n : h₀.get? a = none) (ho : h'.get? a = some oe) (dn : oe.dict = none) (hc : oe.cls = .ref (cls c)) (hd : oe.data = .fields vs) (row : vs[1]? = some .none ∨ RowAt h₀ h' L a vs[1]?)
theorem Keep.fresh {fs : List Addr} {h₀ h₁ : Heap} (k : Keep fs h₀ h₁) (b : Addr) (e : h₁.get? b = none) : h₀.get? b = none := by
  cases q : h₀.get? b with
  | none => rfl
  | some o => obtain ⟨sl, e'⟩ := k.slots b o q; rw [e] at e'; cases e'
theorem Fly.older {C : Str → Addr} {h₀ h₁ h' : Heap} {L : Option Addr} {c : Str} {e : Value} (f : Fly C h₁ h' L c e) {fs : List Addr} (k : Keep fs h₀ h₁) : Fly C h₀ h' L c e :=
  let ⟨a, oe, vs, h1, h2, h3, hdn, h4, h5, h6⟩ := f
  ⟨a, oe, vs, h1, k.fresh _ h2, h3, hdn, h4, h5, h6.imp id fun ⟨T, oT, ts, x, k1, k2, k3, k4, k5, k6, k7⟩ => ⟨T, oT, ts, x, k1, k.fresh _ k2, k3, k4, k5, k6, k7⟩⟩

/-- frames of the text around, enough room -/
structure Okk (X : Bx) (fr : Option Addr) (Z : Addr → Prop) (h : Heap) : Prop where
  fr : ∃ fenv outer, X.A.frames = some (fenv :: outer) ∧ fenv.frame = fr ∧ h.FunFrames X.C.hb (fenv :: outer)
  fin : FramesIn (fsOf X.A) h
  stays : X.C.hb.StaysIn h
  hand : X.q = false → X.A.handled = none
  depth : X.A.depth + X.n < 900
  units : X.A.units + 8 * X.n + 100 < 9900
  zin : ∀ a, Z a → a < h.objs.size ∧ X.C.hb.get? a = none
theorem Okk.notBase {X : Bx} {fr : Option Addr} {h : Heap} (x : Okk X fr Z h) {b : Addr} {o : Obj} (e : X.C.hb.get? b = some o) : b ∉ fsOf X.A := fun m => by
  obtain ⟨fenv, outer, hA, _, hf⟩ := x.fr
  unfold fsOf at m
  rw [hA] at m
  have := (hf.mem (b := b) m).1
  rw [e] at this; cases this
theorem Okk.keep {X : Bx} {fr : Option Addr} {h h' : Heap} (x : Okk X fr Z h) (k : Keep (fsOf X.A) h h') : Okk X fr Z h' :=
  ⟨let ⟨fenv, outer, hA, h2, hf⟩ := x.fr; ⟨fenv, outer, hA, h2, hf.of_keeps fun b o e _ => let ⟨_, e'⟩ := k.slots b o e; ⟨_, e', rfl⟩⟩,
   x.fin.keep k, fun b o e => k.other b o (x.stays b o e) (x.notBase e), x.hand, x.depth, x.units, fun a hz => ⟨Nat.lt_of_lt_of_le (x.zin a hz).1 k.size, (x.zin a hz).2⟩⟩
theorem Okk.room {X : Bx} {fr : Option Addr} {h : Heap} (x : Okk X fr Z h) : X.A.units + 100 < 9900 := by have := x.units; omega

structure EnvOk (env : Env) : Prop where
  cells : ∀ x, (env.kindOf x = some .cell ∨ env.kindOf x = some .free) → (env.cells.lookup x).isSome = true
  kind : env.scope.kind = .function
  globals : env.globals = mainGlobals
  builtins : env.builtins = builtinsNs
/-- a block's names, where they are kept -/
structure Fm (h : Heap) (env : Env) (m cm : Str → Option Value) : Prop where
  ns : h.Ns env.locals m
  cell : ∀ n c, env.cells.lookup n = some c → h.IsCell c (cm n)
  apart : env.cells.Pairwise fun x y => x.2 ≠ y.2
theorem Fm.keep {h h' : Heap} {env : Env} {m cm : Str → Option Value} {fs : List Addr} (x : Fm h env m cm) (k : Keep fs h h') : Fm h' env m cm :=
  ⟨k.ns x.ns, fun n c e => k.cell (x.cell n c e), x.apart⟩
/-- what a name of the block holds -/
def valueAt (env : Env) (m cm : Str → Option Value) (x : Str) : Option Value := match env.kindOf x with
  | some .local => m x
  | some .cell | some .free => if (env.cells.lookup x).isSome then cm x else none
  | _ => none
inductive NameAt (C : Cx) (env : Env) (Z P : Addr → Prop) (h : Heap) (m cm : Str → Option Value) (x : Str) (d : V) : Prop
  | mk (v : Value) (as : List Addr) (e : valueAt env m cm x = some v) (r : VR C Z h v d as) (p : ∀ a ∈ as, P a)
inductive Vars (C : Cx) (env : Env) (Z P : Addr → Prop) (ρ : Rho) (h : Heap) : Prop
  | mk (m cm : Str → Option Value) (f : Fm h env m cm) (a : ∀ x d, ρ.lookup x = some d → NameAt C env Z P h m cm x d)
structure At (X : Bx) (env : Env) (Z P : Addr → Prop) (ρ : Rho) (s : Shared) : Prop where
  ok : Okk X env.frame Z s.heap
  eok : EnvOk env
  vars : Vars X.C env Z P ρ s.heap
theorem At.keep {X : Bx} {env : Env} {P : Addr → Prop} {ρ : Rho} {s : Shared} (x : At X env Z P ρ s) {h' : Heap} {tk : Nat} (k : Keep (fsOf X.A) s.heap h') : At X env Z P ρ { s with heap := h', toks := tk } :=
  ⟨x.ok.keep k, x.eok, let ⟨m, cm, hf, hv⟩ := x.vars; ⟨m, cm, hf.keep k, fun y d e => let ⟨v, as, h1, h2, h3⟩ := hv y d e; ⟨v, as, h1, h2.keep x.ok.fin k, h3⟩⟩⟩

/-- lists are new (from N on) or, where not all is new, from P -/
def Fp (fl : Bool) (P : Addr → Prop) (N : Nat) (as : List Addr) : Prop := ∀ a ∈ as, (fl = false ∧ P a) ∨ N ≤ a
theorem Fp.nil {fl : Bool} {P : Addr → Prop} {N : Nat} : Fp fl P N [] := fun _ m => nomatch m
/-- what is done with a value; with an exception; with a truth -/
def KO (X : Bx) (Z P : Addr → Prop) (N : Nat) (s : Shared) (Qw : VB → Prop) (Q : Value → Shared → Prop) : Prop :=
  ∀ x v h' tk as, Qw x → Keep (fsOf X.A) s.heap h' → VR X.C Z h' v x.1 as → Fp x.2 P N as → Q v { s with heap := h', toks := tk }
def KE (X : Bx) (L : Option Addr) (s : Shared) (Xw : Str → Prop) (E : Value → Shared → Prop) : Prop :=
  ∀ c e h' tk, Xw c → Keep (fsOf X.A) s.heap h' → Fly X.C.cls s.heap h' L c e → E e { s with heap := h', toks := tk }
def KB (X : Bx) (s : Shared) (Qw : Bool → Prop) (Q : Bool → Shared → Prop) : Prop :=
  ∀ b h' tk, Qw b → Keep (fsOf X.A) s.heap h' → Q b { s with heap := h', toks := tk }
section
variable {X : Bx} {P : Addr → Prop} {N : Nat} {s : Shared} {L : Option Addr} {h₁ : Heap} {tk₁ : Nat}
theorem KO.after {Qw Q} (hQ : KO X Z P N s Qw Q) (k : Keep (fsOf X.A) s.heap h₁) : KO X Z P N { s with heap := h₁, toks := tk₁ } Qw Q := fun x v h' tk as hx k' r f => hQ x v h' tk as hx (k.trans k') r f
theorem KE.after {Xw E} (hE : KE X L s Xw E) (k : Keep (fsOf X.A) s.heap h₁) : KE X L { s with heap := h₁, toks := tk₁ } Xw E := fun c e h' tk hc k' f => hE c e h' tk hc (k.trans k') (f.older k)
theorem KB.after {Qw Q} (hQ : KB X s Qw Q) (k : Keep (fsOf X.A) s.heap h₁) : KB X { s with heap := h₁, toks := tk₁ } Qw Q := fun b h' tk hb k' => hQ b h' tk hb (k.trans k')
/-- a value that bears no list, the heap as it was -/
theorem KO.same {Qw Q} (hQ : KO X Z P N s Qw Q) {x : V} {v : Value} {tk : Nat} (hq : Qw (x, true)) (r : VR X.C Z s.heap v x []) : Q v { s with toks := tk } := hQ (x, true) v s.heap tk [] hq (Keep.refl _ _) r Fp.nil
theorem KO.flat {Qw Q} (hQ : KO X Z P N s Qw Q) {x : V} {v : Value} {h' : Heap} {tk : Nat} (k : Keep (fsOf X.A) s.heap h') (hq : Qw (x, true)) (r : VR X.C Z h' v x []) : Q v { s with heap := h', toks := tk } := hQ (x, true) v h' tk [] hq k r Fp.nil
theorem KB.same {Qw Q} (hQ : KB X s Qw Q) {b : Bool} {tk : Nat} (hq : Qw b) : Q b { s with toks := tk } := hQ b s.heap tk hq (Keep.refl _ _)
end

/-- the promise -/
structure Sound (X : Bx) (wl : WLv) : Prop where
  star : ∀ sc ρ v p Q E, ¬ wl.ev sc ρ (.Starred v p) Q E
  set : ∀ sc ρ v k p Q E, ¬ wl.ev sc ρ (.Set v k p) Q E
  ev : ∀ {env : Env} {ρ : Rho} {e : Expr} {Z P : Addr → Prop} {N : Nat} {s : Shared} {Qw Xw} {Q E : Value → Shared → Prop}, N ≤ s.heap.objs.size → wl.ev env.scope.names ρ e Qw Xw → At X env Z P ρ s →
    KO X Z P N s Qw Q → KE X env.frame s Xw E → wpAny X.M X.A (eval e env) Q E s
  cond : ∀ {env : Env} {ρ : Rho} {e : Expr} {Z P : Addr → Prop} {s : Shared} {Qw Xw} {Q : Bool → Shared → Prop} {E : Value → Shared → Prop}, wl.cond env.scope.names ρ e Qw Xw → At X env Z P ρ s →
    KB X s Qw Q → KE X env.frame s Xw E → wpAny X.M X.A (isTrue e env (eval e env)) Q E s

section
variable {X : Bx} {wl : WLv} {env : Env} {ρ : Rho} {P : Addr → Prop} {N : Nat} {s : Shared} {L : Option Addr} {Qw : VB → Prop} {Bw : Bool → Prop} {Xw : Str → Prop} {Q E : Value → Shared → Prop} {QB : Bool → Shared → Prop}

theorem ev_Constant {c : Const} {k : Nat} {pos : Pos} (h : wconst c Qw Xw) (hQ : KO X Z P N s Qw Q) : wpAny X.M X.A (eval (.Constant c k pos) env) Q E s := by
  cases c with
  | none => exact fun _ _ _ => hQ.same (tk := s.toks) h Rd.none
  | bool b => exact fun _ _ _ => hQ.same (tk := s.toks) h (Rd.bool b)
  | int i => exact wpAny_Constant_int (hQ.same h (Rd.int _ _))
  | str x => exact Calls.Constant_str (hQ.same h (Rd.str _ _))
  | _ => exact h.elim

/-- a name by what it holds -/
theorem name_val {x : Str} {pos : Pos} {m cm : Str → Option Value} {v : Value} (eok : EnvOk env) (hf : Fm s.heap env m cm) (h1 : valueAt env m cm x = some v) (hd : (x == ("__debug__" : Str)) = false) (hc : (x == ("__classdict__" : Str)) = false) (h : Q v s) : wpAny X.M X.A (eval (.Name x pos) env) Q E s := by
  refine wpAny_Name ?_ hd
  unfold valueAt at h1
  split at h1
  · rename_i hk; exact wpAny_loadName_local eok.kind hk hf.ns h1 h
  · rename_i hk
    obtain ⟨c, hcl⟩ := Option.isSome_iff_exists.mp (eok.cells x (.inl hk))
    rw [hcl] at h1
    simp only [Option.isSome_some, if_true] at h1
    exact wpAny_loadName_cell eok.kind hk hcl (h1 ▸ hf.cell x c hcl) h
  · rename_i hk
    obtain ⟨c, hcl⟩ := Option.isSome_iff_exists.mp (eok.cells x (.inr hk))
    rw [hcl] at h1
    simp only [Option.isSome_some, if_true] at h1
    exact wpAny_loadName_free eok.kind hk hcl (h1 ▸ hf.cell x c hcl) h hc
  · cases h1
/-- a name of the block -/
theorem At.name (at_ : At X env Z P ρ s) {x : Str} {pos : Pos} {d : V} (hd : (x == ("__debug__" : Str)) = false) (hc : (x == ("__classdict__" : Str)) = false) (hx : ρ.lookup x = some d)
    (h : ∀ v as, VR X.C Z s.heap v d as → (∀ a ∈ as, P a) → Q v s) : wpAny X.M X.A (eval (.Name x pos) env) Q E s :=
  let ⟨_, _, hf, hv⟩ := at_.vars
  let ⟨v, as, h1, h2, h3⟩ := hv x d hx
  name_val at_.eok hf h1 hd hc (h v as h2 h3)

theorem wbinI_sound {op : Operator} {i j : Int} {t u : Nat} (h : wbinI op i j Qw Xw) (hQ : KO X Z P N s Qw Q) : wpAny X.M X.A (binaryOp op (.int i t) (.int j u)) Q E s := by
  cases op with
  | Add => exact PySem.P.add_int (hQ.same h (Rd.int _ _))
  | Sub => exact PySem.P.sub_int (hQ.same h (Rd.int _ _))
  | Mult => exact PySem.P.mul_int (hQ.same h.2 (Rd.int _ _)) ((Bool.or_eq_true_iff.mp h.1).elim (fun h => .of_left (of_decide_eq_true h)) fun h => .of_right (of_decide_eq_true h))
  | FloorDiv => exact PyProof.Rows.floordiv_int h.1 (hQ.same h.2.2 (Rd.int _ _)) (.inl (PyProof.noPylong_small h.2.1))
  | Mod => exact PyProof.Rows.mod_int' h.1 (hQ.same h.2 (Rd.int _ _))
  | Pow => exact PyProof.Rows.pow_int h.1 h.2.1 (hQ.same h.2.2 (Rd.int _ _))
  | _ => exact h.elim

theorem wbinL_sound {op : Operator} {xs ys : List PyData} {f g : Bool} {v u : Value} {as bs : List Addr} (rv : Rd Z s.heap v (.list xs) as) (fx : Fp f P N as) (ru : Rd Z s.heap u (.list ys) bs) (fy : Fp g P N bs) (hN : N ≤ s.heap.objs.size)
    (h : wbinL op xs ys f g Qw Xw) (hQ : KO X Z P N s Qw Q) : wpAny X.M X.A (binaryOp op v u) Q E s := by
  cases op with
  | Add =>
    obtain ⟨hz, fl, hfl, hq⟩ := h
    cases rv with
    | list e1 z1 r1 => cases ru with
      | list e2 z2 r2 =>
        rename_i a vs n1 as a' vs' n2 bs
        have hsz : vs.size + vs'.size ≤ sizeLine := by
          have l1 := r1.length
          have l2 := r2.length
          simp only [Array.length_toList] at l1 l2
          rw [sizeLine_eq]; omega
        refine PySem.P.add_list e1 e2 (hQ _ _ _ s.toks (s.heap.objs.size :: (as ++ bs)) hq (Keep.push _ _ _) ?_ fun b hb => ?_) hsz
        · refine Rd.list (Heap.get?_push_size _ rfl) (by simpa using hsz) ?_
          rw [Array.toList_append]
          exact (r1.stays (push_stays _ _)).append (r2.stays (push_stays _ _))
        · rcases List.mem_cons.mp hb with rfl | hb
          · exact .inr hN
          · have hb' := List.mem_append.mp hb
            cases fl with
            | false => exact hb'.elim (fun hb => (fx b (.tail _ hb)).imp (fun z => ⟨rfl, z.2⟩) id) fun hb => (fy b (.tail _ hb)).imp (fun z => ⟨rfl, z.2⟩) id
            | true =>
              rcases Bool.or_eq_true_iff.mp hfl with hfl | hfl
              · obtain ⟨rfl, rfl⟩ := Bool.and_eq_true_iff.mp hfl
                exact hb'.elim (fun hb => (fx b (.tail _ hb)).imp (fun z => ⟨z.1, z.2⟩) id) fun hb => (fy b (.tail _ hb)).imp (fun z => ⟨z.1, z.2⟩) id
              · obtain ⟨p1, p2⟩ := Bool.and_eq_true_iff.mp hfl
                rw [r1.flat_nil p1, r2.flat_nil p2] at hb
                cases hb
  | _ => exact h.elim

theorem wbinS_sound {op : Operator} {x y : Str} {t u : Nat} (h : wbinS op x y Qw Xw) (hQ : KO X Z P N s Qw Q) : wpAny X.M X.A (binaryOp op (.str x t) (.str y u)) Q E s := by
  cases op with
  | Add => exact PyProof.Rows.add_str (fun t' tk => hQ.same h.2 (Rd.str _ _)) (by rw [sizeLine_eq]; have := h.1; omega)
  | _ => exact h.elim
theorem wbinSI_sound {op : Operator} {x : Str} {n : Int} {t u : Nat} (h : wbinSI op x n Qw Xw) (hQ : KO X Z P N s Qw Q) : wpAny X.M X.A (binaryOp op (.str x t) (.int n u)) Q E s := by
  cases op with
  | Mult =>
    rcases h with ⟨rfl, h⟩ | ⟨rfl, h⟩
    · exact PySem.P.mul_str_none (by omega) (by omega) (hQ.same h (Rd.str _ _))
    · exact PySem.P.mul_str (by decide) (fun _ h => by simp at h) (fun _ h => by simp at h) (by rw [if_neg (by omega), if_pos (by simp)]; exact hQ.same (tk := s.toks) h (Rd.str _ _))
  | _ => exact h.elim

set_option maxHeartbeats 2000000 in
theorem binop_sound {op : Operator} {x y : VB} {v u : Value} {as bs : List Addr} (rv : VR X.C Z s.heap v x.1 as) (fx : Fp x.2 P N as) (ru : VR X.C Z s.heap u y.1 bs) (fy : Fp y.2 P N bs) (hN : N ≤ s.heap.objs.size)
    (h : wbinop op x y Qw Xw) (hQ : KO X Z P N s Qw Q) : wpAny X.M X.A (binaryOp op v u) Q E s := by
  obtain ⟨x, f⟩ := x
  obtain ⟨y, g⟩ := y
  cases x with
  | exc c => exact False.elim h
  | dat a =>
    cases y with
    | exc c => cases a <;> exact False.elim h
    | dat b =>
      cases a with
      | int i => cases b with
        | int j =>
          have h : wbinI op i j Qw Xw := h
          cases rv; cases ru; exact wbinI_sound h hQ
        | _ => exact False.elim h
      | list xs => cases b with
        | list ys =>
          have h : wbinL op xs ys f g Qw Xw := h
          exact wbinL_sound rv fx ru fy hN h hQ
        | _ => exact False.elim h
      | str x => cases b with
        | str y =>
          have h : wbinS op x y Qw Xw := h
          cases rv; cases ru; exact wbinS_sound h hQ
        | int n =>
          have h : wbinSI op x n Qw Xw := h
          cases rv; cases ru; exact wbinSI_sound h hQ
        | _ => exact False.elim h
      | _ => exact False.elim h

theorem ev_BinOp (S : Sound X wl) (at_ : At X env Z P ρ s) (hN : N ≤ s.heap.objs.size) {l r : Expr} {op : Operator} {pos : Pos} (h : wl.ev env.scope.names ρ l (fun a => wl.ev env.scope.names ρ r (fun b => wbinop op a b Qw Xw) Xw) Xw)
    (hQ : KO X Z P N s Qw Q) (hE : KE X env.frame s Xw E) : wpAny X.M X.A (eval (.BinOp l op r pos) env) Q E s := by
  rw [eval_BinOp]
  refine wpAny_bind (S.ev hN h at_ (fun x v h' tk as hx k rv fx => ?_) hE)
  refine wpAny_bind (wpAny_holding (S.ev (Nat.le_trans hN k.size) hx (at_.keep k) (fun y u h'' tk'' bs hy k' ru fy => ?_) (hE.after k)))
  exact wpAny_bind (wpAny_standAt (PyProof.Rows.wpAny_operate' (binop_sound (rv.keep (at_.ok.fin.keep k) k') fx ru fy (Nat.le_trans hN (k.trans k').size) hy (hQ.after (k.trans k')))))

theorem asBool_sound {x : VB} {v : Value} {as : List Addr} {h : Heap} (hb : wasBool x Bw Xw) (rv : VR X.C Z h v x.1 as) : ∃ b, v = .bool b ∧ Bw b := by
  obtain ⟨x, f⟩ := x
  cases x with
  | exc c => exact hb.elim
  | dat d => cases d with
    | bool b => cases rv; exact ⟨b, rfl, hb⟩
    | _ => exact hb.elim
theorem wint_sound {Iw : Int → Prop} {x : V} {v : Value} {as : List Addr} {h : Heap} (hb : wint x Iw Xw) (rv : VR X.C Z h v x as) : ∃ i t, v = .int i t ∧ Iw i := by
  cases x with
  | exc c => exact hb.elim
  | dat d => cases d with
    | int i => cases rv; exact ⟨i, _, rfl, hb⟩
    | _ => exact hb.elim

theorem ev_Not (S : Sound X wl) (at_ : At X env Z P ρ s) {x : Expr} {pos : Pos} (h : wl.ev env.scope.names ρ x (fun a => wasBool a (fun b => Qw (.dat (.bool !b), true)) Xw) Xw) (hQ : KO X Z P N s Qw Q) (hE : KE X env.frame s Xw E) :
    wpAny X.M X.A (eval (.UnaryOp .Not x pos) env) Q E s := by
  show wpAny X.M X.A (do let v ← eval x env; standAt pos; holding [v] (unaryOp .Not v)) _ _ s
  refine wpAny_bind (S.ev (Nat.le_refl _) h at_ (fun x v h' tk as hx k rv fx => ?_) hE)
  obtain ⟨b, rfl, hb⟩ := asBool_sound hx rv
  exact wpAny_bind (wpAny_standAt (wpAny_holding (PyProof.Rows.not_of (wpAny_truthy_bool (hQ.flat k hb (Rd.bool _))))))
theorem ev_USub (S : Sound X wl) (at_ : At X env Z P ρ s) {x : Expr} {pos : Pos} (h : wl.ev env.scope.names ρ x (fun a => wint a.1 (fun i => Qw (.dat (.int (-i)), true)) Xw) Xw) (hQ : KO X Z P N s Qw Q) (hE : KE X env.frame s Xw E) :
    wpAny X.M X.A (eval (.UnaryOp .USub x pos) env) Q E s := by
  show wpAny X.M X.A (do let v ← eval x env; standAt pos; holding [v] (unaryOp .USub v)) _ _ s
  refine wpAny_bind (S.ev (Nat.le_refl _) h at_ (fun x v h' tk as hx k rv fx => ?_) hE)
  obtain ⟨i, t, rfl, hi⟩ := wint_sound hx rv
  exact wpAny_bind (wpAny_standAt (wpAny_holding (PySem.P.neg_int (hQ.flat k hi (Rd.int _ _)))))

/-- and, or: the value is a bool -/
theorem boolL_sound (S : Sound X wl) {op : BoolOp} {pos : Pos} : ∀ (r : List Expr) (e : Expr) (s : Shared), wboolL wl env.scope.names ρ op e r (fun b => Qw (.dat (.bool b), true)) Xw → At X env Z P ρ s → KO X Z P N s Qw Q → KE X env.frame s Xw E →
    wpAny X.M X.A (boolOp pos op (evalEach (e :: r) env)) Q E s
  | [], e, s, h, at_, hQ, hE => S.ev (Nat.le_refl _) h at_ (fun x v h' tk as hx k rv fx => by
      obtain ⟨b, rfl, hb⟩ := asBool_sound hx rv
      exact hQ.flat k hb (Rd.bool b)) hE
  | e' :: r, e, s, h, at_, hQ, hE => by
    show wpAny X.M X.A (do
      let v ← eval e env
      standAt pos
      let t ← holding [v] (truthy v)
      match op, t with
      | .And, false | .Or, true => pure v
      | _, _ => boolOp pos op (evalEach (e' :: r) env)) _ _ s
    refine wpAny_bind (S.ev (Nat.le_refl _) h at_ (fun x v h' tk as hx k rv fx => ?_) hE)
    obtain ⟨b, rfl, hb⟩ := asBool_sound hx rv
    refine wpAny_bind (wpAny_standAt (wpAny_bind (wpAny_holding (wpAny_truthy_bool ?_))))
    cases op <;> cases b
    · exact wpAny_pure (hQ.flat k hb (Rd.bool false))
    · exact boolL_sound S r e' _ hb (at_.keep k) (hQ.after k) (hE.after k)
    · exact boolL_sound S r e' _ hb (at_.keep k) (hQ.after k) (hE.after k)
    · exact wpAny_pure (hQ.flat k hb (Rd.bool true))

theorem condL_sound (S : Sound X wl) {op : BoolOp} : ∀ (es : List Expr) (s : Shared), wcondL wl env.scope.names ρ op es Bw Xw → At X env Z P ρ s → KB X s Bw QB → KE X env.frame s Xw E → wpAny X.M X.A (allTrue op es env) QB E s
  | [], s, h, at_, hQ, hE => wpAny_pure (by cases op <;> exact hQ.same (tk := s.toks) h)
  | e :: r, s, h, at_, hQ, hE => by
    show wpAny X.M X.A (do
      match op, ← isTrue e env (eval e env) with
      | .And, false => pure false
      | .Or, true => pure true
      | _, _ => allTrue op r env) _ _ s
    refine wpAny_bind (S.cond h at_ (fun b h' tk hb k => ?_) hE)
    cases op <;> cases b
    · exact wpAny_pure (hQ _ _ _ hb k)
    · exact condL_sound S r _ hb (at_.keep k) (hQ.after k) (hE.after k)
    · exact condL_sound S r _ hb (at_.keep k) (hQ.after k) (hE.after k)
    · exact wpAny_pure (hQ _ _ _ hb k)

theorem cmpI_sound {op : CmpOp} {i j : Int} {t u : Nat} (h : wcmpI op i j Bw Xw) (hQ : ∀ b tk, Bw b → Q (.bool b) { s with toks := tk }) (hu : X.A.units + 64 < cLine) : wpAny X.M X.A (compareOp op (.int i t) (.int j u)) Q E s := by
  have ask : ∀ (p : Prop) [Decidable p], wask p Bw Xw → Bw (decide p) := fun p _ h => by
    by_cases hp : p
    · rw [decide_eq_true hp]; exact h.1 hp
    · rw [decide_eq_false hp]; exact h.2 hp
  cases op with
  | Eq => exact SeqAt.compareEq_shaped (Rd.reads (Rd.int (Z := fun _ => False) i t)) (Rd.reads (Rd.int (Z := fun _ => False) j u)) rfl rfl hu (hQ _ s.toks (ask _ h))
  | NotEq => exact SeqAt.compareNe_shaped (Rd.reads (Rd.int (Z := fun _ => False) i t)) (Rd.reads (Rd.int (Z := fun _ => False) j u)) rfl rfl hu (hQ _ s.toks (by
      have := ask _ h
      rw [show PyData.eqv (.int i) (.int j) = decide (i = j) from rfl]
      rw [show decide (i ≠ j) = !decide (i = j) by simp] at this
      exact this))
  | Lt => exact PySem.P.lt_int (hQ _ s.toks (ask _ h))
  | LtE => exact PySem.P.le_int (hQ _ s.toks (ask _ h))
  | Gt => exact PySem.P.gt_int (hQ _ s.toks (ask _ h))
  | GtE => exact PySem.P.ge_int (hQ _ s.toks (ask _ h))
  | _ => exact h.elim
theorem cmpD_sound {op : CmpOp} {a b : PyData} {v u : Value} {as bs : List Addr} (rv : Rd Z s.heap v a as) (ru : Rd Z s.heap u b bs) (h : wcmpD op a b Bw Xw) (hQ : ∀ b tk, Bw b → Q (.bool b) { s with toks := tk }) (hu : X.A.units + 64 < cLine) :
    wpAny X.M X.A (compareOp op v u) Q E s := by
  cases op with
  | Eq => obtain ⟨h1, h2, c, rfl, hq⟩ := h; exact SeqAt.compareEq_shaped rv.reads ru.reads h1 h2 hu (hQ _ s.toks hq)
  | NotEq => obtain ⟨h1, h2, c, rfl, hq⟩ := h; exact SeqAt.compareNe_shaped rv.reads ru.reads h1 h2 hu (hQ _ s.toks hq)
  | Is =>
    cases b with
    | none => cases ru; cases rv <;> first | exact wpAny_is_self rfl (hQ _ s.toks h) | exact wpAny_is_other rfl (by intro z; cases z) (hQ _ s.toks h)
    | _ => exact h.elim
  | IsNot =>
    cases b with
    | none => cases ru; cases rv <;> first | exact wpAny_isNot_self rfl (hQ _ s.toks h) | exact wpAny_isNot_other rfl (by intro z; cases z) (hQ _ s.toks h)
    | _ => exact h.elim
  | _ => exact h.elim
theorem cmp_sound {op : CmpOp} {x y : V} {v u : Value} {as bs : List Addr} (rv : VR X.C Z s.heap v x as) (ru : VR X.C Z s.heap u y bs) (hu : X.A.units + 100 < 9900) (h : wcmp op x y Bw Xw) (hQ : ∀ b tk, Bw b → Q (.bool b) { s with toks := tk }) :
    wpAny X.M X.A (compareOp op v u) Q E s := by
  have hu' : X.A.units + 64 < cLine := by unfold cLine; omega
  cases x with
  | exc c => exact h.elim
  | dat a =>
    cases y with
    | exc c => exact h.elim
    | dat b =>
      cases a with
      | int i => cases b with
        | int j => cases rv; cases ru; exact cmpI_sound h hQ hu'
        | _ => exact cmpD_sound rv ru h hQ hu'
      | _ => exact cmpD_sound rv ru h hQ hu'

/-- a chain of comparisons: its value -/
theorem chainV_sound (S : Sound X wl) {pos : Pos} : ∀ (ops : List CmpOp) (es : List Expr) (l : V) (u : Value) (bs : List Addr) (s : Shared), wchain wl env.scope.names ρ l ops es (fun b => Qw (.dat (.bool b), true)) Xw → VR X.C Z s.heap u l bs → At X env Z P ρ s →
    KO X Z P N s Qw Q → KE X env.frame s Xw E → wpAny X.M X.A (compareChain pos u ops (evalEach es env)) Q E s
  | [], es, _, _, _, _, h, _, _, _, _ => by cases es <;> exact h.elim
  | op :: ops, [], _, _, _, _, h, _, _, _, _ => by cases ops <;> exact h.elim
  | [op], [e], l, u, bs, s, h, hu, at_, hQ, hE => by
    show wpAny X.M X.A (do
      let rv ← holding [u] (eval e env)
      standAt pos
      operate [u, rv] (compareOp op u rv)) _ _ s
    refine wpAny_bind (wpAny_holding (S.ev (Nat.le_refl _) h at_ (fun x v h' tk as hx k rv fx => ?_) hE))
    exact wpAny_bind (wpAny_standAt (PyProof.Rows.wpAny_operate' (cmp_sound (hu.keep at_.ok.fin k) rv at_.ok.room hx fun b tk' hb => hQ.flat k hb (Rd.bool b))))
  | [op], e :: e' :: r, _, _, _, _, h, _, _, _, _ => h.elim
  | op :: op' :: ops, [e], _, _, _, _, h, _, _, _, _ => h.elim
  | op :: op' :: ops, e :: e' :: es, l, u, bs, s, h, hu, at_, hQ, hE => by
    show wpAny X.M X.A (do
      let rv ← holding [u] (eval e env)
      standAt pos
      let c ← holding [u, rv] (compareOp op u rv)
      release [u, rv] [c]
      if ← holding [c, rv] (truthy c) then compareChain pos rv (op' :: ops) (evalEach (e' :: es) env) else pure c) _ _ s
    refine wpAny_bind (wpAny_holding (S.ev (Nat.le_refl _) h at_ (fun x v h' tk as hx k rv fx => ?_) hE))
    refine wpAny_bind (wpAny_standAt (wpAny_bind (wpAny_holding (cmp_sound (hu.keep at_.ok.fin k) rv at_.ok.room hx fun b tk' hb => ?_))))
    refine wpAny_bind (PyProof.Rows.wpAny_release' (wpAny_bind (wpAny_holding (wpAny_truthy_bool ?_))))
    cases b with
    | false => exact wpAny_pure (hQ.flat k hb (Rd.bool false))
    | true => exact chainV_sound S (op' :: ops) (e' :: es) x.1 v as { s with heap := h', toks := tk' } hb rv (at_.keep k) (hQ.after k) (hE.after k)

end
end Mine
end

section
set_option linter.unusedVariables false
namespace Mine
open PySem
variable {Z : Addr → Prop}

/-- values of a list of expressions -/
inductive VRs (C : Cx) (Z : Addr → Prop) (h : Heap) (P : Addr → Prop) (N : Nat) : List Value → List VB → Prop
  | nil : VRs C Z h P N [] []
  | cons {v x as vs xs} : VR C Z h v x.1 as → Fp x.2 P N as → VRs C Z h P N vs xs → VRs C Z h P N (v :: vs) (x :: xs)
/-- the arguments of a call and where their lists lie -/
inductive VRsP (C : Cx) (Z : Addr → Prop) (h : Heap) (P : Addr → Prop) : List Value → List V → Prop
  | nil : VRsP C Z h P [] []
  | cons {v x as vs xs} : VR C Z h v x as → (∀ a ∈ as, P a) → VRsP C Z h P vs xs → VRsP C Z h P (v :: vs) (x :: xs)

section
variable {X : Bx} {wl : WLv} {env : Env} {ρ : Rho} {P : Addr → Prop} {N : Nat} {s : Shared} {L : Option Addr} {Qw : VB → Prop} {Bw : Bool → Prop} {Xw : Str → Prop} {Q E : Value → Shared → Prop} {QB : Bool → Shared → Prop}

theorem chainT_sound (S : Sound X wl) {pos : Pos} : ∀ (ops : List CmpOp) (es : List Expr) (l : V) (u : Value) (bs : List Addr) (s : Shared), wchain wl env.scope.names ρ l ops es Bw Xw → VR X.C Z s.heap u l bs → At X env Z P ρ s →
    KB X s Bw QB → KE X env.frame s Xw E → wpAny X.M X.A (testChain pos u ops (evalEach es env)) QB E s
  | [], es, _, _, _, _, h, _, _, _, _ => by cases es <;> exact h.elim
  | op :: ops, [], _, _, _, _, h, _, _, _, _ => by cases ops <;> exact h.elim
  | [op], e :: e' :: r, _, _, _, _, h, _, _, _, _ => h.elim
  | op :: op' :: ops, [e], _, _, _, _, h, _, _, _, _ => h.elim
  | [op], [e], l, u, bs, s, h, hu, at_, hQ, hE => by
    show wpAny X.M X.A (do
      let rv ← holding [u] (eval e env)
      standAt pos
      let c ← operate [u, rv] (compareOp op u rv)
      holding [c] (truthy c)) _ _ s
    refine wpAny_bind (wpAny_holding (S.ev (Nat.le_refl _) h at_ (fun x v h' tk as hx k rv fx => ?_) hE))
    exact wpAny_bind (wpAny_standAt (wpAny_bind (PyProof.Rows.wpAny_operate' (cmp_sound (hu.keep at_.ok.fin k) rv at_.ok.room hx fun b tk' hb => wpAny_holding (wpAny_truthy_bool (hQ _ _ _ hb k))))))
  | op :: op' :: ops, e :: e' :: es, l, u, bs, s, h, hu, at_, hQ, hE => by
    show wpAny X.M X.A (do
      let rv ← holding [u] (eval e env)
      standAt pos
      let c ← holding [u, rv] (compareOp op u rv)
      release [u, rv] [c]
      if ← holding [c, rv] (truthy c) then testChain pos rv (op' :: ops) (evalEach (e' :: es) env) else pure false) _ _ s
    refine wpAny_bind (wpAny_holding (S.ev (Nat.le_refl _) h at_ (fun x v h' tk as hx k rv fx => ?_) hE))
    refine wpAny_bind (wpAny_standAt (wpAny_bind (wpAny_holding (cmp_sound (hu.keep at_.ok.fin k) rv at_.ok.room hx fun b tk' hb => ?_))))
    refine wpAny_bind (PyProof.Rows.wpAny_release' (wpAny_bind (wpAny_holding (wpAny_truthy_bool ?_))))
    cases b with
    | false => exact wpAny_pure (hQ _ _ _ hb k)
    | true => exact chainT_sound S (op' :: ops) (e' :: es) x.1 v as { s with heap := h', toks := tk' } hb rv (at_.keep k) (hQ.after k) (hE.after k)

theorem evalEach_mark {ops : List CmpOp} {es : List Expr} (h : (!lastMarks ops es) = true) : markedEach ops es (evalEach es env) = evalEach es env := PyProof.Rows.markedEach_of_false ops es _ (by simpa using h)
theorem ev_Compare (S : Sound X wl) (at_ : At X env Z P ρ s) {l : Expr} {ops : List CmpOp} {es : List Expr} {pos : Pos} (hm : (!lastMarks ops es) = true) (h : wl.ev env.scope.names ρ l (fun a => wchain wl env.scope.names ρ a.1 ops es (fun b => Qw (.dat (.bool b), true)) Xw) Xw)
    (hQ : KO X Z P N s Qw Q) (hE : KE X env.frame s Xw E) : wpAny X.M X.A (eval (.Compare l ops es pos) env) Q E s := by
  show wpAny X.M X.A (do compareChain pos (← eval l env) ops (markedEach ops es (evalEach es env))) _ _ s
  rw [evalEach_mark hm]
  exact wpAny_bind (S.ev (Nat.le_refl _) h at_ (fun x v h' tk as hx k rv fx => chainV_sound S ops es x.1 v as _ hx rv (at_.keep k) (hQ.after k) (hE.after k)) hE)
theorem cond_Compare (S : Sound X wl) (at_ : At X env Z P ρ s) {l : Expr} {ops : List CmpOp} {es : List Expr} {pos : Pos} {whole : Sem Value} (hm : (!lastMarks ops es) = true) (h : wl.ev env.scope.names ρ l (fun a => wchain wl env.scope.names ρ a.1 ops es Bw Xw) Xw)
    (hQ : KB X s Bw QB) (hE : KE X env.frame s Xw E) : wpAny X.M X.A (isTrue (.Compare l ops es pos) env whole) QB E s := by
  show wpAny X.M X.A (do testChain pos (← eval l env) ops (markedEach ops es (evalEach es env))) _ _ s
  rw [evalEach_mark hm]
  exact wpAny_bind (S.ev (Nat.le_refl _) h at_ (fun x v h' tk as hx k rv fx => chainT_sound S ops es x.1 v as _ hx rv (at_.keep k) (hQ.after k) (hE.after k)) hE)
/-- any other test: the value is a bool -/
theorem cond_plain (S : Sound X wl) (at_ : At X env Z P ρ s) {e : Expr} {pos : Pos} (h : wl.ev env.scope.names ρ e (fun a => wasBool a Bw Xw) Xw) (hQ : KB X s Bw QB) (hE : KE X env.frame s Xw E) :
    wpAny X.M X.A (do let v ← eval e env; standAt pos; holding [v] (truthy v)) QB E s := by
  refine wpAny_bind (S.ev (Nat.le_refl _) h at_ (fun x v h' tk as hx k rv fx => ?_) hE)
  obtain ⟨b, rfl, hb⟩ := asBool_sound hx rv
  exact wpAny_bind (wpAny_standAt (wpAny_holding (wpAny_truthy_bool (hQ _ _ _ hb k))))

theorem VRs.keep {C : Cx} {h h' : Heap} {vs : List Value} {xs : List VB} {fs : List Addr} (F : FramesIn fs h) (k : Keep fs h h') (x : VRs C Z h P N vs xs) : VRs C Z h' P N vs xs := by
  induction x with
  | nil => exact .nil
  | cons a b _ ih => exact .cons (a.keep F k) b ih
theorem VRs.length {C : Cx} {h : Heap} {vs : List Value} {xs : List VB} (r : VRs C Z h P N vs xs) : vs.length = xs.length := by
  induction r with
  | nil => rfl
  | cons _ _ _ ih => rw [List.length_cons, List.length_cons, ih]
theorem VRs.dats {C : Cx} {h : Heap} {vs : List Value} {xs : List VB} (r : VRs C Z h P N vs xs) : ∀ ds, datsOf xs = some ds → ∃ as, RdAll Z h vs ds as ∧ Fp (xs.all (·.2)) P N as := by
  induction r with
  | nil => intro ds e; cases e; exact ⟨[], .nil, Fp.nil⟩
  | @cons v x as vs xs a f _ ih =>
    intro ds e
    obtain ⟨d, fl⟩ := x
    cases d with
    | exc c => cases e
    | dat d =>
      obtain ⟨ds', e', rfl⟩ := Option.map_eq_some_iff.mp e
      obtain ⟨as', r', f'⟩ := ih ds' e'
      exact ⟨_, .cons a r', fun b hb => (List.mem_append.mp hb).elim (fun hb => (f b hb).imp (fun z => ⟨by rw [List.all_cons, show fl = false from z.1]; rfl, z.2⟩) id) fun hb => (f' b hb).imp (fun z => ⟨by rw [List.all_cons, z.1, Bool.and_false], z.2⟩) id⟩
theorem VRs.toP {C : Cx} {h : Heap} {fl : Bool} {vs : List Value} {xs : List VB} (r : VRs C Z h P N vs xs) (hx : ∀ x : VB, x ∈ xs → x.2 = false → fl = false) : VRsP C Z h (fun a => (fl = false ∧ P a) ∨ N ≤ a) vs (xs.map fun x : VB => x.1) := by
  induction r with
  | nil => exact .nil
  | cons a f _ ih => exact .cons a (fun b hb => (f b hb).imp (fun z => ⟨hx _ (.head _) z.1, z.2⟩) id) (ih fun x hm => hx x (.tail _ hm))
theorem starEach_cons (S : Sound X wl) {e : Expr} {r : List Expr} {q x} (h : wl.ev env.scope.names ρ e q x) : starEach (e :: r) env = (false, eval e env) :: starEach r env := by
  cases e with
  | Starred v p => exact absurd h (S.star _ _ _ _ _ _)
  | _ => rfl
theorem evL_sound (S : Sound X wl) {pos : Pos} : ∀ (es : List Expr) {s : Shared} {Lw : List VB → Prop} {QL : List Value → Shared → Prop}, N ≤ s.heap.objs.size → wevL wl env.scope.names ρ es Lw Xw → At X env Z P ρ s →
    (∀ xs vs h' tk, Lw xs → Keep (fsOf X.A) s.heap h' → VRs X.C Z h' P N vs xs → QL vs { s with heap := h', toks := tk }) → KE X env.frame s Xw E → wpAny X.M X.A (spliced (backTo pos (starEach es env))) QL E s
  | [], s, Lw, QL, hN, h, at_, hQ, hE => Calls.spliced_nil (hQ [] [] s.heap s.toks h (Keep.refl _ _) .nil)
  | e :: r, s, Lw, QL, hN, h, at_, hQ, hE => by
    rw [starEach_cons S h, show backTo pos ((false, eval e env) :: starEach r env) = (false, eval e env) :: backTo pos (starEach r env) from rfl]
    refine Calls.spliced_cons (S.ev hN h at_ (fun x v h' tk as hx k rv fx => ?_) hE)
    exact evL_sound S r (Nat.le_trans hN k.size) hx (at_.keep k) (fun xs vs h'' tk'' hxs k' rs => hQ _ _ _ _ hxs (k.trans k') (.cons (rv.keep (at_.ok.fin.keep k) k') fx rs)) (hE.after k)

theorem ev_List (S : Sound X wl) (at_ : At X env Z P ρ s) (hN : N ≤ s.heap.objs.size) {es : List Expr} {pos : Pos} (h : wevL wl env.scope.names ρ es (fun vs => ∃ a, mkList vs = some a ∧ Qw a) Xw) (hQ : KO X Z P N s Qw Q) (hE : KE X env.frame s Xw E) :
    wpAny X.M X.A (eval (.List es pos) env) Q E s := by
  show wpAny X.M X.A (do standAt pos; newList (← spliced (backTo pos (starEach es env)))) _ _ s
  refine wpAny_bind (wpAny_standAt (wpAny_bind (evL_sound S es hN h at_ (fun xs vs h' tk hx k r => ?_) hE)))
  obtain ⟨a, ha, hq⟩ := hx
  unfold mkList at ha
  split at ha
  · rename_i hl
    obtain ⟨ds, hd, rfl⟩ := Option.map_eq_some_iff.mp ha
    obtain ⟨as, rr, f⟩ := r.dats _ hd
    have hz : vs.toArray.size ≤ sizeLine := by rw [List.size_toArray, r.length, sizeLine_eq]; omega
    exact wpAny_newObj_type (hQ _ _ _ tk (h'.objs.size :: as) hq (k.trans (Keep.push _ _ _)) (Rd.list (Heap.get?_push_size _ rfl) hz (rr.stays (push_stays _ _))) fun b hb => (List.mem_cons.mp hb).elim (fun q => q ▸ .inr (Nat.le_trans hN k.size)) (f b)) hz
  · cases ha
theorem ev_Tuple (S : Sound X wl) (at_ : At X env Z P ρ s) (hN : N ≤ s.heap.objs.size) {es : List Expr} {kk : Nat} {pos : Pos} (h : wevL wl env.scope.names ρ es (fun vs => ∃ a, mkTuple vs = some a ∧ Qw a) Xw) (hQ : KO X Z P N s Qw Q) (hE : KE X env.frame s Xw E) :
    wpAny X.M X.A (eval (.Tuple es kk pos) env) Q E s := by
  show wpAny X.M X.A (do standAt pos; newTuple (← spliced (backTo pos (starEach es env)))) _ _ s
  refine wpAny_bind (wpAny_standAt (wpAny_bind (evL_sound S es hN h at_ (fun xs vs h' tk hx k r => ?_) hE)))
  obtain ⟨a, ha, hq⟩ := hx
  unfold mkTuple at ha
  split at ha
  · rename_i hl
    obtain ⟨ds, hd, rfl⟩ := Option.map_eq_some_iff.mp ha
    obtain ⟨as, rr, f⟩ := r.dats _ hd
    have hz : vs.toArray.size ≤ sizeLine := by rw [List.size_toArray, r.length, sizeLine_eq]; omega
    exact wpAny_newObj_type (hQ _ _ _ tk as hq (k.trans (Keep.push _ _ _)) (Rd.tuple (fun q => Nat.lt_irrefl _ (Nat.lt_of_lt_of_le (at_.ok.zin _ q).1 k.size)) (Heap.get?_push_size _ rfl) hz (rr.stays (push_stays _ _))) f) hz
  · cases ha

theorem place_seq {i : Int} {m k : Nat} (h : place i m = some k) : (0 ≤ i ∧ i < m ∧ k = i.toNat) ∨ (i < 0 ∧ -(m : Int) ≤ i ∧ k = (i + m).toNat) := by
  unfold place at h
  split at h
  · split at h
    · cases h; left; exact ⟨by assumption, by assumption, rfl⟩
    · cases h
  · split at h
    · cases h; right; exact ⟨by omega, by omega, rfl⟩
    · cases h
theorem itemL_sound {xs : List PyData} {f : Bool} {i : Int} {x : VB} {vs : List Value} {as : List Addr} (r : RdAll Z s.heap vs xs as) (fx : Fp f P N as) (h : itemL xs f i = some x) (hq : Qw x) (hQ : KO X Z P N s Qw Q) :
    ∃ k y, place i xs.length = some k ∧ vs[k]? = some y ∧ Q y s := by
  unfold itemL at h
  split at h
  · rename_i k hk
    split at h
    · rename_i d hd
      cases h
      obtain ⟨y, cs, e1, e2, e3⟩ := r.get k d hd
      refine ⟨k, y, hk, e1, hQ _ _ s.heap s.toks cs hq (Keep.refl _ _) e2 fun a ha => ?_⟩
      cases hf : flat d with
      | true => rw [e2.flat_nil hf] at ha; cases ha
      | false => exact (fx a (e3 a ha)).imp (fun z => ⟨by simp [z.1, hf], z.2⟩) id
    · cases h
  · cases h
theorem item_sound {x : VB} {i : Int} {v : Value} {u : Tok} {as : List Addr} (rv : VR X.C Z s.heap v x.1 as) (fx : Fp x.2 P N as) {a : VB} (h : item x i = some a) (hq : Qw a) (hQ : KO X Z P N s Qw Q) {value slice : Expr} (hsl : isSlice slice = false) :
    wpAny X.M X.A (PyProof.Rows.subscriptTail value slice v (.int i u)) Q E s := by
  have hs : ∀ o j, subscripted slice false o j = operate [o, j] (getItem o j) := by
    intro o j
    cases slice with
    | Slice a b c d => cases hsl
    | _ => rfl
  obtain ⟨x, f⟩ := x
  cases x with
  | exc c => cases h
  | dat d =>
    cases d with
    | list xs =>
      cases rv with
      | list e z r =>
        obtain ⟨k, y, hk, hy, hq⟩ := itemL_sound r (fun b hb => fx b (.tail _ hb)) h hq hQ
        have hl := r.length
        simp only [Array.length_toList] at hl
        rw [sizeLine_eq] at z
        rw [Array.getElem?_toList] at hy
        rcases place_seq hk with ⟨p1, p2, p3⟩ | ⟨p1, p2, p3⟩
        · exact PyProof.Rows.tail_any (ops := [_, _]) (IsL.isList e).typeIs slot_list_getitem.lookup (wpAny_getItem_list (IsL.isList e) p1 (by omega) (p3 ▸ hy) hq) (hs _ _)
        · exact PyProof.Rows.tail_any (ops := [_, _]) (IsL.isList e).typeIs slot_list_getitem.lookup (wpAny_getItem_list_neg (IsL.isList e) p1 (by omega) (by omega) (by rw [hl]; exact p3 ▸ hy) hq) (hs _ _)
    | tuple xs =>
      cases rv with
      | tuple nz e z r =>
        rename_i a vs c
        obtain ⟨k, y, hk, hy, hq⟩ := itemL_sound r fx h hq hQ
        have hl := r.length
        simp only [Array.length_toList] at hl
        rw [sizeLine_eq] at z
        rw [Array.getElem?_toList] at hy
        have hsq : seqIndex? i vs.size = some k := by
          rcases place_seq hk with ⟨p1, p2, p3⟩ | ⟨p1, p2, p3⟩
          · unfold seqIndex?
            simp only [if_neg (show ¬ i < 0 by omega)]
            rw [if_pos (by simp only [Bool.and_eq_true, decide_eq_true_eq]; omega), p3]
          · rw [seqIndex_neg p1 (by omega), p3, hl]
        have hb : -(16777216 : Int) ≤ i ∧ i ≤ 16777216 := by rcases place_seq hk with ⟨p1, p2, p3⟩ | ⟨p1, p2, p3⟩ <;> omega
        exact PyProof.Rows.tail_any (ops := [_, _]) ⟨_, e, rfl⟩ F.slot_tuple_getitem.lookup (PySem.P.getItem_tuple e (by omega) (by omega) hsq hy hq) (hs _ _)
    | _ => cases h

theorem part_sound (S : Sound X wl) {o : Option Expr} {s : Shared} {Pw : Option Int → Prop} {QP : Value → Shared → Prop} (h : wpart wl env.scope.names ρ o Pw Xw) (at_ : At X env Z P ρ s) (hQ : ∀ i v h' tk, Pw i → IsPart v i → Keep (fsOf X.A) s.heap h' → QP v { s with heap := h', toks := tk }) (hE : KE X env.frame s Xw E) :
    wpAny X.M X.A (evalPart o env) QP E s := by
  cases o with
  | none => exact wpAny_pure (hQ none .none s.heap s.toks h .none (Keep.refl _ _))
  | some e => exact S.ev (Nat.le_refl _) h at_ (fun x v h' tk as hx k rv fx => let ⟨i, t, e, hp⟩ := wint_sound hx rv; e ▸ hQ (some i) _ h' tk hp (.int i t) k) hE
theorem RdAll.places {h : Heap} {vs : List Value} {ds : List PyData} {as : List Addr} (r : RdAll Z h vs ds as) : ∀ js : List Nat, ∃ bs, RdAll Z h (js.filterMap (vs[·]?)) (js.filterMap (ds[·]?)) bs ∧ ∀ a ∈ bs, a ∈ as
  | [] => ⟨[], .nil, fun _ m => nomatch m⟩
  | j :: js => by
    obtain ⟨bs, ih, hs⟩ := r.places js
    cases hd : ds[j]? with
    | some d =>
      obtain ⟨v, cs, e1, e2, e3⟩ := r.get j d hd
      simp only [List.filterMap_cons, hd, e1]
      exact ⟨cs ++ bs, .cons e2 ih, fun a ha => (List.mem_append.mp ha).elim (e3 a) (hs a)⟩
    | none =>
      have hv : vs[j]? = none := by
        rw [List.getElem?_eq_none_iff] at hd ⊢
        rw [r.length]; exact hd
      simp only [List.filterMap_cons, hd, hv]
      exact ⟨bs, ih, hs⟩
theorem slice_sound {a : VB} {v : Value} {as : List Addr} {lo hi st : Option Int} {vl vu vs : Value} (hN : N ≤ s.heap.objs.size) (rv : VR X.C Z s.heap v a.1 as) (fx : Fp a.2 P N as) (pl : IsPart vl lo) (pu : IsPart vu hi) (ps : IsPart vs st) (h : wslice lo hi st a Qw Xw) (hQ : KO X Z P N s Qw Q) {value slice : Expr}
    (hs : ∀ o i, ∃ ops, subscripted slice false o i = operate ops (getItem o i)) : wpAny X.M X.A (PyProof.Rows.subscriptTail value slice v (.ref s.heap.objs.size)) Q E { s with heap := s.heap.push { cls := .type "slice", data := .fields #[vl, vu, vs] } } := by
  obtain ⟨a, f⟩ := a
  cases a with
  | exc c => exact h.elim
  | dat d =>
    cases d with
    | list xs =>
      obtain ⟨h0, ys, rfl, fl, hfl, hq⟩ := h
      cases rv with
      | @list a items n _ as e z r =>
        obtain ⟨ops, hs⟩ := hs (.ref a) (.ref s.heap.objs.size)
        have il : s.heap.IsList a items := IsL.isList e
        refine PyProof.Rows.tail_any (Heap.IsList.typeIs (s := { s with heap := s.heap.push { cls := .type "slice", data := .fields #[vl, vu, vs] } }) (il.push _)) list_getitem_lookup (wpAny_getItem_list_slice (il.push _) (Heap.IsSliceOf.new ..) pl pu ps h0 ?_ z) hs
        have hl : items.size = xs.length := by have := r.length; simpa using this
        obtain ⟨bs, rr, hb⟩ := r.places (sliceRange (sliceBounds lo hi st xs.length).1 (sliceBounds lo hi st xs.length).2.1 (sliceBounds lo hi st xs.length).2.2)
        have e2 : (slicePick items lo hi st).toList = (sliceRange (sliceBounds lo hi st xs.length).1 (sliceBounds lo hi st xs.length).2.1 (sliceBounds lo hi st xs.length).2.2).filterMap (items.toList[·]?) := by simp [slicePick, hl]
        rw [← e2] at rr
        have kk : Keep (fsOf X.A) s.heap ((s.heap.push { cls := .type "slice", data := .fields #[vl, vu, vs] }).push { cls := .type "list", data := .seq (slicePick items lo hi st) }) := (Keep.push _ _ _).trans (Keep.push _ _ _)
        refine hQ _ _ _ s.toks ((s.heap.push { cls := .type "slice", data := .fields #[vl, vu, vs] }).objs.size :: bs) hq kk (Rd.list (Heap.get?_push_size _ rfl) (Nat.le_trans (slicePick_size_le items lo hi st) z) ((rr.stays (push_stays _ _)).stays (push_stays _ _))) fun b hb' => ?_
        rcases List.mem_cons.mp hb' with rfl | hb'
        · exact .inr (by rw [Heap.size_push]; omega)
        · cases fl with
          | false => exact (fx b (.tail _ (hb b hb'))).imp (fun z => ⟨rfl, z.2⟩) id
          | true =>
            rcases Bool.or_eq_true_iff.mp hfl with hfl | hfl
            · exact (fx b (.tail _ (hb b hb'))).imp (fun z => Bool.noConfusion (z.1.symm.trans hfl)) id
            · rw [rr.flat_nil hfl] at hb'; cases hb'
    | _ => exact h.elim

theorem sliceOf_eq {e : Expr} {lo hi st : Option Expr} {p : Pos} (h : sliceOf e = some (lo, hi, st, p)) : e = .Slice lo hi st p := by
  unfold sliceOf at h
  split at h
  · cases h; rfl
  · cases h
theorem ev_Slice (S : Sound X wl) (at_ : At X env Z P ρ s) (hN : N ≤ s.heap.objs.size) {v : Expr} {lo hi st : Option Expr} {pp pos : Pos}
    (h : wl.ev env.scope.names ρ v (fun a => wpart wl env.scope.names ρ lo (fun lo => wpart wl env.scope.names ρ hi (fun hi => wpart wl env.scope.names ρ st (fun st => wslice lo hi st a Qw Xw) Xw) Xw) Xw) Xw)
    (hQ : KO X Z P N s Qw Q) (hE : KE X env.frame s Xw E) : wpAny X.M X.A (eval (.Subscript v (.Slice lo hi st pp) pos) env) Q E s := by
  show wpAny X.M X.A (do
      let o ← eval v env
      let i ← holding [o] (eval (.Slice lo hi st pp) env)
      standAt pos
      PyProof.Rows.subscriptTail v (.Slice lo hi st pp) o i) Q E s
  refine wpAny_bind (S.ev hN h at_ (fun x vv h₁ tk₁ as hx k₁ rv fx => ?_) hE)
  have F := at_.ok.fin
  refine wpAny_bind (wpAny_holding (wpAny_Slice (part_sound S hx (at_.keep k₁) (fun lo' vl h₂ tk₂ hlo pl k₂ => part_sound S hlo ((at_.keep k₁).keep k₂) (fun hi' vu h₃ tk₃ hhi pu k₃ => part_sound S hhi (((at_.keep k₁).keep k₂).keep k₃) (fun st' vs h₄ tk₄ hst ps k₄ => ?_) ((hE.after k₁).after k₂ |>.after k₃)) ((hE.after k₁).after k₂)) (hE.after k₁))))
  have k24 := (k₂.trans k₃).trans k₄
  refine wpAny_bind (wpAny_standAt (slice_sound (s := { s with heap := h₄, toks := tk₄ }) (Nat.le_trans hN (k₁.trans k24).size) (rv.keep (F.keep k₁) k24) fx pl pu ps hst (hQ.after (k₁.trans k24)) fun o i => ?_))
  cases st with
  | none => exact ⟨_, rfl⟩
  | some e => exact ⟨_, rfl⟩

theorem ev_Subscript (S : Sound X wl) (at_ : At X env Z P ρ s) (hN : N ≤ s.heap.objs.size) {v sl : Expr} {pos : Pos} (hsl' : isSlice sl = false) (h : wl.ev env.scope.names ρ v (fun a => wl.ev env.scope.names ρ sl (fun i => wint i.1 (fun i => ∃ r, item a i = some r ∧ Qw r) Xw) Xw) Xw)
    (hQ : KO X Z P N s Qw Q) (hE : KE X env.frame s Xw E) : wpAny X.M X.A (eval (.Subscript v sl pos) env) Q E s := by
  have key : wpAny X.M X.A (do
      let o ← eval v env
      let i ← holding [o] (eval sl env)
      standAt pos
      PyProof.Rows.subscriptTail v sl o i) Q E s := by
    refine wpAny_bind (S.ev hN h at_ (fun x vv h' tk as hx k rv fx => ?_) hE)
    refine wpAny_bind (wpAny_holding (S.ev (Nat.le_trans hN k.size) hx (at_.keep k) (fun y u h'' tk'' bs hy k' ru fy => ?_) (hE.after k)))
    obtain ⟨i, t, rfl, r, hr, hq⟩ := wint_sound hy ru
    exact wpAny_bind (wpAny_standAt (item_sound (rv.keep (at_.ok.fin.keep k) k') fx hr hq (hQ.after (k.trans k')) hsl'))
  cases sl with
  | Slice a b c d => cases hsl'
  | _ => exact key

/-- a call's function, as the rules want it -/
def Callee (X : Bx) (fv : Value) : Prop := (∃ id, fv = .builtin id) ∨ (∃ T, fv = .type T) ∨ ∃ a o fd, fv = .ref a ∧ X.C.hb.get? a = some o ∧ o.data = .func fd
theorem shape_star : ∀ es : List Expr, (es.all fun e => !isStarE e) = true → starEach es env = es.map fun e => (false, eval e env)
  | [], _ => rfl
  | e :: r, h => by
    rw [List.all_cons, Bool.and_eq_true] at h
    rw [List.map_cons, ← shape_star r h.2]
    cases e with
    | Starred _ _ => simp [isStarE] at h
    | _ => rfl
/-- the arguments of a call, then the call -/
theorem call_args (S : Sound X wl) (at_ : At X env Z P ρ s) (hN : N ≤ s.heap.objs.size) {args : List Expr} {pos : Pos} {fv : Value} {Lw : List VB → Prop} (hns : noStar args = true) (h : wevL wl env.scope.names ρ args Lw Xw) (hfv : Callee X fv)
    (hk : ∀ xs vs h' tk, Lw xs → Keep (fsOf X.A) s.heap h' → VRs X.C Z h' P N vs xs → wpAny X.M X.A (call fv vs) Q E { s with heap := h', toks := tk }) (hE : KE X env.frame s Xw E) :
    wpAny X.M X.A (callWith pos fv [] (backTo pos (starEach args env)) []) Q E s := by
  obtain ⟨h1, h2⟩ := Bool.and_eq_true_iff.mp hns
  have hba : backTo pos (starEach args env) = args.map fun e => (false, eval e env) := by rw [shape_star args h2]; unfold backTo; rw [List.map_map]; rfl
  have hpl : (((args.map fun e => ((false, eval e env) : Bool × Sem Value))).any (·.1)) = false := by simp [List.any_map]
  have cont : ∀ (QA : Args → Shared → Prop), (∀ vs h' tk, Keep (fsOf X.A) s.heap h' → wpAny X.M X.A (call fv vs) Q E { s with heap := h', toks := tk } → QA ⟨vs, []⟩ { s with heap := h', toks := tk }) → wpAny X.M X.A (evalArgs fv true (args.map fun e => (false, eval e env)) []) QA E s := fun QA hQA => by
    obtain ⟨e0, es, rfl⟩ : ∃ e0 es, args = e0 :: es := by cases args with | nil => simp at h1 | cons a b => exact ⟨a, b, rfl⟩
    have := evL_sound (pos := pos) (QL := fun vs s₁ => QA ⟨vs, []⟩ s₁) S (e0 :: es) hN h at_ (fun xs vs h' tk hx k r => hQA vs h' tk k (hk xs vs h' tk hx k r)) hE
    rw [hba] at this
    exact Calls.evalArgs_plain this
  rw [hba]
  rcases hfv with ⟨id, rfl⟩ | ⟨T, rfl⟩ | ⟨a, o, fd, rfl, ho, hd⟩
  · exact Calls.callWith_builtin hpl (cont _ fun vs h' tk k z => z)
  · exact callWith_type hpl (cont _ fun vs h' tk k z => z)
  · exact Calls.callWith_function (o := o) (fd := fd) (cont _ fun vs h' tk k z => ⟨⟨(at_.ok.keep k).stays a o ho, hd⟩, z⟩)

end
end Mine
end

section
set_option linter.unusedVariables false
namespace Mine
open PySem
variable {Z : Addr → Prop}

structure CxOk (C : Cx) : Prop where
  g : C.hb.Ns mainGlobals C.mg
  b : C.hb.Ns builtinsNs C.mb
  nolimit : C.hb.NoLimit
  const : ∀ x d, C.K.const x = some d → ∃ v, C.mg x = some v ∧ Rd (fun a => C.hb.get? a = none) C.hb v d []
  bi : ∀ x v, biTab.lookup x = some v → C.K.isFn x = false → C.K.isCls x = false → C.mg x = none ∧ C.mb x = some v
  cls : ∀ T, C.K.isCls T = true → C.mg T = some (.ref (C.cls T)) ∧ (T == ("__debug__" : Str)) = false ∧ biTab.lookup T = none ∧ C.K.isFn T = false
  made : ∀ c, C.K.isCls c = true → ∃ B newId initId bm, PyProof.Rows.OwnCls c (C.cls c) bm newId C.mg C.hb ∧ ExcBaseFacts B newId initId bm
  exm : ∀ c w', C.K.isCls c = true → C.K.isCls w' = true → C.K.sub c w' = true → ∀ (A : Around) (s : Shared) e o, C.hb.StaysIn s.heap → s.heap.get? e = some o → o.cls = .ref (C.cls c) → ∀ Q E, Q true s → wpAny (model C.prog C.w) A (excMatches (.ref e) (.ref (C.cls w'))) Q E s
  isi : ∀ T tv, ((C.K.isCls T = true ∧ tv = .ref (C.cls T)) ∨ (C.K.isCls T = false ∧ T = "ValueError" ∧ tv = .type "ValueError")) → ∀ c b, isinst C.K (.exc c) T = some b → ∀ (A : Around) (s : Shared) v, C.hb.StaysIn s.heap → IsExc C.cls s.heap v c →
    ∀ Q E, (∀ tk, Q (.bool b) { s with toks := tk }) → wpAny (model C.prog C.w) A (call (.builtin "isinstance") [v, tv]) Q E s

/-- what a def of the text promises -/
def FnOk (X : Bx) (f : Str) (a : Addr) : Prop :=
  ∀ {xs : List V} {s : Shared} {vs : List Value} {Z P : Addr → Prop} {L : Option Addr} {Qw Xw} {Q E : Value → Shared → Prop}, X.C.K.call X.q f xs Qw Xw → Okk X L Z s.heap → VRsP X.C Z s.heap P vs xs →
    KO X Z P s.heap.objs.size s Qw Q → KE X L s Xw E → wpAny X.M X.A (call (.ref a) vs) Q E s
inductive FnAt (X : Bx) (f : Str) : Prop
  | mk (a : Addr) (o : Obj) (fd : FuncData) (hm : X.C.mg f = some (.ref a)) (ho : X.C.hb.get? a = some o) (hd : o.data = .func fd) (ok : FnOk X f a)
def FnsOk (X : Bx) : Prop := ∀ f, X.C.K.isFn f = true → FnAt X f

theorem best_take (f : Nat → Int) (lt : Int → Int → Bool) (bt : Nat → Nat → Bool) (a : Int) (r : List Int) (hf : ∀ i, i ≤ r.length → f i = (a :: r).getD i 0) (hbt : ∀ i j, bt i j = lt (f i) (f j)) :
    ∀ k, k ≤ r.length → argBest bt k ≤ k ∧ f (argBest bt k) = (r.take k).foldl (fun m b => if lt b m = true then b else m) a
  | 0, _ => by simp [argBest, hf 0 (Nat.zero_le _)]
  | k + 1, hk => by
    obtain ⟨h1, h2⟩ := best_take f lt bt a r hf hbt k (by omega)
    rw [argBest, hbt]
    have e1 : r.take (k + 1) = r.take k ++ [r[k]'(by omega)] := by rw [List.take_append_getElem]
    have e2 : f (k + 1) = r[k]'(by omega) := by rw [hf (k + 1) hk]; simp [List.getD]; rw [List.getElem?_eq_getElem (by omega)]; rfl
    rw [e1, List.foldl_append, ← h2]
    simp only [List.foldl_cons, List.foldl_nil]
    rw [← e2]
    by_cases hc : lt (f (k + 1)) (f (argBest bt k)) = true
    · rw [if_pos hc, if_pos hc]; exact ⟨Nat.le_refl _, rfl⟩
    · rw [if_neg hc, if_neg hc]; exact ⟨by omega, rfl⟩
theorem maxI_fold : ∀ (r : List Int) (a : Int), maxI a r = r.foldl (fun m b => if decide (b > m) = true then b else m) a
  | [], _ => rfl
  | b :: r, a => by rw [maxI, maxI_fold r, List.foldl_cons]; simp only [decide_eq_true_eq]
theorem minI_fold : ∀ (r : List Int) (a : Int), minI a r = r.foldl (fun m b => if decide (b < m) = true then b else m) a
  | [], _ => rfl
  | b :: r, a => by rw [minI, minI_fold r, List.foldl_cons]; simp only [decide_eq_true_eq]
/-- a list of ints as the library's walkers want it -/
theorem intItems_of {h : Heap} {vs : List Value} {ds : List PyData} {as : List Addr} (r : RdAll Z h vs ds as) : ∀ is, intsOf ds = some is → ∃ xs : List (Int × Tok), vs = xs.map (fun p => Value.int p.1 p.2) ∧ xs.map (·.1) = is :=
  (Rd.ind (Z := Z) (h := h) (M := fun v d _ => ∀ i, d = .int i → ∃ t, v = .int i t) (N := fun v d _ => ∀ is, intsOf d = some is → ∃ xs : List (Int × Tok), v = xs.map (fun p => Value.int p.1 p.2) ∧ xs.map (·.1) = is) (fun _ e => by cases e) (fun _ _ e => by cases e) (fun i t _ e => by cases e; exact ⟨t, rfl⟩) (fun _ _ _ e => by cases e)
    (fun _ _ _ _ _ _ _ _ _ _ e => by cases e) (fun _ _ _ _ _ _ _ _ _ _ _ e => by cases e) (fun _ _ _ _ _ _ _ e => by cases e) (fun is e => by cases e; exact ⟨[], rfl, rfl⟩) fun v vs d ds as bs _ _ i j is e => by
      cases d with
      | int k =>
        obtain ⟨is', e', rfl⟩ := Option.map_eq_some_iff.mp e
        obtain ⟨xs, rfl, rfl⟩ := j is' e'
        obtain ⟨t, rfl⟩ := i k rfl
        exact ⟨(k, t) :: xs, rfl, rfl⟩
      | _ => cases e).2 r

section
variable {X : Bx} {wl : WLv} {env : Env} {ρ : Rho} {P : Addr → Prop} {N : Nat} {s : Shared} {L : Option Addr} {Qw : VB → Prop} {Bw : Bool → Prop} {Xw : Str → Prop} {Q E : Value → Shared → Prop} {QB : Bool → Shared → Prop}

theorem best_of {xs : List (Int × Tok)} {a : Int} {r : List Int} (hx : xs.map (·.1) = a :: r) (lt : Int → Int → Bool) : numAt xs.toArray (argBest (fun i j => lt (numAt xs.toArray i) (numAt xs.toArray j)) (xs.toArray.size - 1)) = r.foldl (fun m b => if lt b m = true then b else m) a := by
  have hlen : xs.length = r.length + 1 := by simpa using congrArg List.length hx
  have := (best_take (numAt xs.toArray) lt _ a r (fun i _ => by unfold numAt; rw [← hx]; simp [List.getD]) (fun _ _ => rfl) r.length (Nat.le_refl _)).2
  rw [List.take_length] at this
  rw [show xs.toArray.size - 1 = r.length by simp [hlen]]
  exact this
theorem list_ints {vs : Array Value} {xs : List (Int × Tok)} (hv : vs.toList = xs.map (fun p => Value.int p.1 p.2)) : vs = intItems xs.toArray := by
  apply Array.ext'
  rw [hv]; simp [intItems]

inductive One (C : Cx) (Z : Addr → Prop) (h : Heap) (P : Addr → Prop) (N : Nat) (vs : List Value) (x : VB) : Prop
  | mk (v : Value) (as : List Addr) (e : vs = [v]) (r : VR C Z h v x.1 as) (f : Fp x.2 P N as)
theorem VRs.one {C : Cx} {h : Heap} {vs : List Value} {x : VB} (r : VRs C Z h P N vs [x]) : One C Z h P N vs x := by
  cases r with
  | cons a f r => cases r; exact ⟨_, _, rfl, a, f⟩
theorem VRs.ints {C : Cx} {h : Heap} {vs : List Value} {a b : Int} {f g : Bool} (r : VRs C Z h P N vs [(.dat (.int a), f), (.dat (.int b), g)]) : ∃ t u, vs = [.int a t, .int b u] := by
  cases r with
  | cons x _ r => cases r with
    | cons y _ r => cases r; cases x; cases y; exact ⟨_, _, rfl⟩

theorem len_sound {xs : List VB} {x : VB} {vs : List Value} (r : VRs X.C Z s.heap P N vs xs) (h : bLen xs = some x) (hq : Qw x) (hQ : KO X Z P N s Qw Q) : wpAny X.M X.A (call (.builtin "len") vs) Q E s := by
  unfold bLen at h
  split at h
  · obtain ⟨v, as, rfl, rv, _⟩ := r.one
    cases h
    cases rv with
    | list e z rr =>
      have hl := rr.length
      simp only [Array.length_toList] at hl
      rw [sizeLine_eq] at z
      exact Calls.call_len_list (IsL.isList e) (by omega) (by rw [hl]; exact hQ.same hq (Rd.int _ _))
  · obtain ⟨v, as, rfl, rv, _⟩ := r.one
    cases h
    cases rv with
    | tuple nz e z rr =>
      have hl := rr.length
      simp only [Array.length_toList] at hl
      rw [sizeLine_eq] at z
      exact PySem.P.len_tuple e (by omega) (by rw [hl]; exact hQ.same hq (Rd.int _ _))
  · cases h
theorem max_sound {xs : List VB} {x : VB} {vs : List Value} (hh : X.A.handled = none) (r : VRs X.C Z s.heap P N vs xs) (h : bMax xs = some x) (hq : Qw x) (hQ : KO X Z P N s Qw Q) : wpAny X.M X.A (call (.builtin "max") vs) Q E s := by
  unfold bMax at h
  split at h
  · obtain ⟨t, u, rfl⟩ := r.ints
    cases h
    refine wpAny_sized (max_two_ints hh fun h' tk hk hsz => ?_)
    split at hq
    · rename_i hc; rw [if_pos hc]; exact hQ.flat (size_le_of_keeps hk hsz _) hq (Rd.int _ _)
    · rename_i hc; rw [if_neg hc]; exact hQ.flat (size_le_of_keeps hk hsz _) hq (Rd.int _ _)
  · split at h
    · rename_i hi
      cases h
      obtain ⟨v, as, rfl, rv, _⟩ := r.one
      cases rv with
      | list e z rr =>
        obtain ⟨ys, hv, hx⟩ := intItems_of rr _ hi
        have hne : 0 < ys.toArray.size := by have := congrArg List.length hx; simp at this ⊢; omega
        refine wpAny_sized (max_intList hh (list_ints hv ▸ IsL.isList e) hne fun v h' tk hP hk hsz => ?_)
        obtain ⟨t, rfl⟩ := intItems_at hP
        rw [best_of hx fun a b => decide (a > b), ← maxI_fold]
        exact hQ.flat (size_le_of_keeps hk hsz _) hq (Rd.int _ _)
    · cases h
  · cases h
theorem min_sound {xs : List VB} {x : VB} {vs : List Value} (hh : X.A.handled = none) (r : VRs X.C Z s.heap P N vs xs) (h : bMin xs = some x) (hq : Qw x) (hQ : KO X Z P N s Qw Q) : wpAny X.M X.A (call (.builtin "min") vs) Q E s := by
  unfold bMin at h
  split at h
  · obtain ⟨t, u, rfl⟩ := r.ints
    cases h
    refine wpAny_sized (min_two_ints hh fun h' tk hk hsz => ?_)
    split at hq
    · rename_i hc; rw [if_pos hc]; exact hQ.flat (size_le_of_keeps hk hsz _) hq (Rd.int _ _)
    · rename_i hc; rw [if_neg hc]; exact hQ.flat (size_le_of_keeps hk hsz _) hq (Rd.int _ _)
  · split at h
    · rename_i hi
      cases h
      obtain ⟨v, as, rfl, rv, _⟩ := r.one
      cases rv with
      | list e z rr =>
        obtain ⟨ys, hv, hx⟩ := intItems_of rr _ hi
        have hne : 0 < ys.toArray.size := by have := congrArg List.length hx; simp at this ⊢; omega
        refine wpAny_sized (min_intList hh (list_ints hv ▸ IsL.isList e) hne fun v h' tk hP hk hsz => ?_)
        obtain ⟨t, rfl⟩ := intItems_at hP
        rw [best_of hx fun a b => decide (a < b), ← minI_fold]
        exact hQ.flat (size_le_of_keeps hk hsz _) hq (Rd.int _ _)
    · cases h
  · cases h
theorem abs_sound {xs : List VB} {x : VB} {vs : List Value} (r : VRs X.C Z s.heap P N vs xs) (h : bAbs xs = some x) (hq : Qw x) (hQ : KO X Z P N s Qw Q) : wpAny X.M X.A (call (.builtin "abs") vs) Q E s := by
  unfold bAbs at h
  split at h
  · obtain ⟨v, as, rfl, rv, _⟩ := r.one
    cases h; cases rv
    exact PyProof.Rows.call_abs_int fun u tk => hQ.same hq (Rd.int _ _)
  · cases h
theorem int_sound {xs : List VB} {x : VB} {vs : List Value} (r : VRs X.C Z s.heap P N vs xs) (h : bInt xs = some x) (hq : Qw x) (hQ : KO X Z P N s Qw Q) : wpAny X.M X.A (call (.type "int") vs) Q E s := by
  unfold bInt at h
  split at h
  · obtain ⟨v, as, rfl, rv, _⟩ := r.one
    cases h; cases rv
    exact call_int_bool (hQ.same hq (Rd.int _ _))
  · cases h
theorem list_sound {xs : List VB} {x : VB} {vs : List Value} (ok : FramesIn (fsOf X.A) s.heap) (hN : N ≤ s.heap.objs.size) (r : VRs X.C Z s.heap P N vs xs) (h : bList xs = some x) (hq : Qw x) (hQ : KO X Z P N s Qw Q) : wpAny X.M X.A (call (.type "list") vs) Q E s := by
  unfold bList at h
  split at h
  · rename_i xs fr
    obtain ⟨v, as, rfl, rv, fv⟩ := r.one
    cases h
    cases rv with
    | list e z rr =>
      rename_i a vs c bs
      refine wpAny_sized (call_list_seq a (.inl rfl) e rfl rfl (fun h' c' hk hD hsz => ?_) z)
      have kk := size_le_of_keeps hk hsz (fsOf X.A)
      refine hQ _ _ h' s.toks (s.heap.objs.size :: bs) hq kk (Rd.list hD z (rr.keep ok kk)) fun b hb => ?_
      rcases List.mem_cons.mp hb with rfl | hb
      · exact .inr hN
      · cases hfl : flatAll xs with
        | true => rw [rr.flat_nil hfl] at hb; cases hb
        | false => exact (fv b (.tail _ hb)).imp (fun z => ⟨by rw [show fr = false from z.1]; rfl, z.2⟩) id
  · cases h

theorem At.globs (at_ : At X env Z P ρ s) (O : CxOk X.C) : s.heap.Ns env.globals X.C.mg ∧ s.heap.Ns env.builtins X.C.mb := by
  rw [at_.eok.globals, at_.eok.builtins]
  exact ⟨O.g.keeps at_.ok.stays, O.b.keeps at_.ok.stays⟩
/-- a built-in's name; a name of the top -/
theorem At.builtin (at_ : At X env Z P ρ s) (O : CxOk X.C) {x : Str} {pos : Pos} {v : Value} (hg : glob env.scope.names x = true) (hb : biTab.lookup x = some v) (hf : X.C.K.isFn x = false) (hd : (x == ("__debug__" : Str)) = false) (h : Q v s) :
    wpAny X.M X.A (eval (.Name x pos) env) Q E s := by
  obtain ⟨g1, g2⟩ := at_.globs O
  obtain ⟨h1, h2⟩ := O.bi x v hb hf (by
    cases hc : X.C.K.isCls x with
    | false => rfl
    | true => have := (O.cls x hc).2.2.1; rw [hb] at this; cases this)
  exact Calls.Name_function_global at_.eok.kind (eq_of_beq hg) (Calls.loadGlobal_builtin g1 h1 g2 h2 h) hd
theorem At.global (at_ : At X env Z P ρ s) (O : CxOk X.C) {x : Str} {pos : Pos} {v : Value} (hg : glob env.scope.names x = true) (hv : X.C.mg x = some v) (hd : (x == ("__debug__" : Str)) = false) (h : Q v s) : wpAny X.M X.A (eval (.Name x pos) env) Q E s :=
  Calls.Name_function_global at_.eok.kind (eq_of_beq hg) (Calls.loadGlobal_global (at_.globs O).1 hv h) hd

theorem ev_Name (O : CxOk X.C) {x : Str} {pos : Pos} (at_ : At X env Z P ρ s) (h : wname X.C.K env.scope.names ρ x Qw Xw) (hQ : KO X Z P N s Qw Q) : wpAny X.M X.A (eval (.Name x pos) env) Q E s := by
  obtain ⟨hdc, h⟩ := wif_elim h
  simp only [Bool.not_eq_true', Bool.or_eq_false_iff] at hdc
  have loc : wopt (ρ.lookup x) (fun v => wok (v, v.flat)) Qw Xw → wpAny X.M X.A (eval (.Name x pos) env) Q E s := fun h => by
    obtain ⟨d, hd, h⟩ := wopt_elim h
    refine at_.name hdc.1 hdc.2 hd fun v as h2 h3 => hQ _ _ s.heap s.toks as h (Keep.refl _ _) h2 fun a ha => ?_
    cases hf : d.flat with
    | true => rw [VR.flat_nil h2 hf] at ha; cases ha
    | false => exact .inl ⟨rfl, h3 a ha⟩
  cases hk : env.scope.names.lookup x with
  | none => rw [hk] at h; exact h.elim
  | some kd =>
  rw [hk] at h
  cases kd <;> first | exact loc h | exact False.elim h | skip
  · obtain ⟨d, hd, h⟩ := wopt_elim h
    obtain ⟨v, hv, hr⟩ := O.const x d hd
    exact Calls.Name_function_global at_.eok.kind hk (Calls.loadGlobal_global (at_.globs O).1 hv (hQ.same (tk := s.toks) h ((hr.move (bar_moves fun a _ hz => (at_.ok.zin a hz).2) fun _ _ => trivial).move (stays_moves at_.ok.stays) fun _ _ => trivial))) hdc.1

/-- isinstance of data against a built-in kind -/
theorem isKind_sound {d : PyData} {v : Value} {as : List Addr} {T : Str} (rv : Rd Z s.heap v d as) (hT : kindNames.contains T = true) (h : ∀ tk, Q (.bool (isKind T d)) { s with toks := tk }) :
    ∃ tv, biTab.lookup T = some (.type tv) ∧ (T == ("__debug__" : Str)) = false ∧ wpAny X.M X.A (call (.builtin "isinstance") [v, .type tv]) Q E s := by
  have hmem : T ∈ kindNames := by simpa using hT
  simp only [kindNames, List.mem_cons, List.not_mem_nil, or_false] at hmem
  rcases hmem with rfl | rfl | rfl | rfl | rfl
  · refine ⟨"int", by decide, by decide, ?_⟩
    cases rv
    · exact IsiPair.NoneType_int (h _)
    · exact IsiPair.bool_int (h _)
    · exact IsiPair.int_int (h _)
    · exact IsiPair.str_int (h _)
    · exact IsiPair.list_int (by assumption) rfl (h _)
    · exact IsiPair.tuple_int (by assumption) rfl (h _)
    · exact IsiPair.dict_int (by assumption) (by assumption) (h _)
  · refine ⟨"bool", by decide, by decide, ?_⟩
    cases rv
    · exact IsiPair.NoneType_bool (h _)
    · exact IsiPair.bool_bool (h _)
    · exact IsiPair.int_bool (h _)
    · exact IsiPair.str_bool (h _)
    · exact IsiPair.list_bool (by assumption) rfl (h _)
    · exact IsiPair.tuple_bool (by assumption) rfl (h _)
    · exact IsiPair.dict_bool (by assumption) (by assumption) (h _)
  · refine ⟨"str", by decide, by decide, ?_⟩
    cases rv
    · exact IsiPair.NoneType_str (h _)
    · exact IsiPair.bool_str (h _)
    · exact IsiPair.int_str (h _)
    · exact IsiPair.str_str (h _)
    · exact IsiPair.list_str (by assumption) rfl (h _)
    · exact IsiPair.tuple_str (by assumption) rfl (h _)
    · exact IsiPair.dict_str (by assumption) (by assumption) (h _)
  · refine ⟨"list", by decide, by decide, ?_⟩
    cases rv
    · exact IsiPair.NoneType_list (h _)
    · exact IsiPair.bool_list (h _)
    · exact IsiPair.int_list (h _)
    · exact IsiPair.str_list (h _)
    · exact IsiPair.list_list (by assumption) rfl (h _)
    · exact IsiPair.tuple_list (by assumption) rfl (h _)
    · exact IsiPair.dict_list (by assumption) (by assumption) (h _)
  · refine ⟨"tuple", by decide, by decide, ?_⟩
    cases rv
    · exact IsiPair.NoneType_tuple (h _)
    · exact IsiPair.bool_tuple (h _)
    · exact IsiPair.int_tuple (h _)
    · exact IsiPair.str_tuple (h _)
    · exact IsiPair.list_tuple (by assumption) rfl (h _)
    · exact IsiPair.tuple_tuple (by assumption) rfl (h _)
    · exact IsiPair.dict_tuple (by assumption) (by assumption) (h _)

theorem ev_isinstance (O : CxOk X.C) (S : Sound X wl) (at_ : At X env Z P ρ s) {x : Expr} {T : Str} {np pos p0 : Pos} (hg : glob env.scope.names "isinstance" = true) (hfn : X.C.K.isFn "isinstance" = false) (hgT : glob env.scope.names T = true) (hT : X.C.K.isFn T = false)
    (h : wl.ev env.scope.names ρ x (fun v => ∃ b, isinst X.C.K v.1 T = some b ∧ Qw (.dat (.bool b), true)) Xw) (hQ : KO X Z P N s Qw Q) (hE : KE X env.frame s Xw E) :
    wpAny X.M X.A (eval (.Call (.Name "isinstance" p0) [x, .Name T np] [] pos) env) Q E s := by
  refine wpAny_Call_ofName (at_.builtin O hg (v := .builtin "isinstance") (by decide) hfn (by decide) ?_)
  rw [starEach_cons S h, show starEach [.Name T np] env = [(false, eval (.Name T np) env)] from rfl]
  refine Calls.callWith_builtin rfl (Calls.evalArgs_plain (Calls.spliced_cons (S.ev (Nat.le_refl _) h at_ (fun y v h' tk as hy k rv fp => Calls.spliced_cons ?_) hE)))
  have at' := at_.keep (tk := tk) k
  obtain ⟨b, hb, hq⟩ := hy
  have fin : ∀ tk', Q (.bool b) { s with heap := h', toks := tk' } := fun tk' => hQ.flat k hq (Rd.bool b)
  obtain ⟨d, fl⟩ := y
  cases d with
  | dat d =>
    simp only [isinst] at hb
    split at hb
    · rename_i hk
      cases hb
      obtain ⟨tv, htv, hdb, hw⟩ := isKind_sound (X := X) (s := { s with heap := h', toks := tk }) (E := E) rv hk fin
      exact at'.builtin O hgT htv hT hdb (Calls.spliced_nil hw)
    · cases hb
  | exc c =>
    have hb' := hb
    simp only [isinst] at hb'
    split at hb'
    · cases hcl : X.C.K.isCls T with
      | true =>
        obtain ⟨m1, m2, m3, m4⟩ := O.cls T hcl
        exact at'.global O hgT m1 m2 (Calls.spliced_nil (O.isi T _ (.inl ⟨hcl, rfl⟩) c b hb X.A _ v at'.ok.stays rv.2 _ _ fin))
      | false =>
        rw [hcl] at hb'
        simp only [Bool.false_eq_true, if_false] at hb'
        split at hb'
        · rename_i hve
          have := eq_of_beq hve
          subst this
          exact at'.builtin O hgT (v := .type "ValueError") (by decide) hT (by decide) (Calls.spliced_nil (O.isi "ValueError" _ (.inr ⟨hcl, rfl, rfl⟩) c b hb X.A _ v at'.ok.stays rv.2 _ _ fin))
        · cases hb'
    · cases hb'

/-- a call of one of the text's defs -/
theorem ev_own (O : CxOk X.C) (Fn : FnsOk X) (S : Sound X wl) (at_ : At X env Z P ρ s) (hN : N ≤ s.heap.objs.size) {f : Str} {np pos : Pos} {args : List Expr} (hg : glob env.scope.names f = true) (hns : noStar args = true) (hd : (f == ("__debug__" : Str)) = false) (hf : X.C.K.isFn f = true)
    (h : wevL wl env.scope.names ρ args (fun vs => X.C.K.call X.q f (vs.map (·.1)) (fun v => Qw (v.1, v.2 || v.1.flat || vs.all (·.2))) Xw) Xw) (hQ : KO X Z P N s Qw Q) (hE : KE X env.frame s Xw E) : wpAny X.M X.A (eval (.Call (.Name f np) args [] pos) env) Q E s := by
  obtain ⟨a, o, fd, m1, m2, m3, m4⟩ := Fn f hf
  refine wpAny_Call_ofName (at_.global O hg m1 hd (call_args S at_ hN hns h (.inr (.inr ⟨a, o, fd, rfl, m2, m3⟩)) (fun xs vs h' tk hx k r => ?_) hE))
  have hall : ∀ x : VB, x ∈ xs → x.2 = false → xs.all (·.2) = false := fun x hx e => by
    cases hf : xs.all (·.2) with
    | false => rfl
    | true => have := List.all_eq_true.mp hf x hx; rw [e] at this; cases this
  refine m4 hx (at_.keep (tk := tk) k).ok (r.toP hall) (fun x v h'' tk'' as hx' k' rv fp => hQ _ _ _ _ as hx' (k.trans k') rv fun b hb => ?_) (hE.after k)
  have nf : x.1.flat = false := by
    cases hf : x.1.flat with
    | false => rfl
    | true => rw [rv.flat_nil hf] at hb; cases hb
  rcases fp b hb with ⟨z1, z2⟩ | z
  · exact z2.imp (fun z => ⟨by simp only [z1, nf, z.1, Bool.or_self], z.2⟩) id
  · exact .inr (Nat.le_trans hN (Nat.le_trans k.size z))

theorem ev_Call (O : CxOk X.C) (Fn : FnsOk X) (S : Sound X wl) (at_ : At X env Z P ρ s) (hN : N ≤ s.heap.objs.size) {f : Str} {np pos : Pos} {args : List Expr} (h : wcall X.C.K X.q wl env.scope.names ρ f args Qw Xw) (hQ : KO X Z P N s Qw Q) (hE : KE X env.frame s Xw E) :
    wpAny X.M X.A (eval (.Call (.Name f np) args [] pos) env) Q E s := by
  obtain ⟨hg0, h⟩ := wif_elim h
  obtain ⟨hg1, hdbg⟩ := Bool.and_eq_true_iff.mp hg0
  obtain ⟨hg, hns⟩ := Bool.and_eq_true_iff.mp hg1
  have hd : (f == ("__debug__" : Str)) = false := by simpa [bne] using hdbg
  cases hf : X.C.K.isFn f with
  | true => rw [hf] at h; exact ev_own O Fn S at_ hN hg hns hd hf h hQ hE
  | false =>
    rw [hf] at h
    cases hi : f == "isinstance" with
    | true =>
      rw [hi] at h
      have := eq_of_beq hi
      subst this
      obtain ⟨⟨x, T, tp⟩, ht, h1⟩ := wopt_elim h
      obtain ⟨hT, h2⟩ := wif_elim h1
      clear h h1
      obtain ⟨hT1, hT2⟩ := Bool.and_eq_true_iff.mp hT
      have ha : args = [x, .Name T tp] := by
        unfold isiOf at ht
        split at ht
        · cases ht; rfl
        · cases ht
      subst ha
      exact ev_isinstance O S at_ hg hf hT1 (by simpa using hT2) h2 hQ hE
    | false =>
      rw [hi] at h
      obtain ⟨g, hl, h⟩ := wopt_elim h
      obtain ⟨hq, h⟩ := wif_elim h
      have hand : f ≠ "int" → X.A.handled = none := fun hf => at_.ok.hand (by
        cases hx : X.q with
        | false => rfl
        | true => rw [hx] at hq; simp [hf] at hq)
      have go : ∀ fv, biTab.lookup f = some fv → Callee X fv → (∀ xs x vs h' tk, g xs = some x → Qw x → Keep (fsOf X.A) s.heap h' → VRs X.C Z h' P N vs xs → wpAny X.M X.A (call fv vs) Q E { s with heap := h', toks := tk }) → wpAny X.M X.A (eval (.Call (.Name f np) args [] pos) env) Q E s := fun fv hb hc hs =>
        wpAny_Call_ofName (at_.builtin O hg hb hf hd (call_args S at_ hN hns h hc (fun xs vs h' tk ⟨x, hx, hq⟩ k r => hs xs x vs h' tk hx hq k r) hE))
      have hm := mem_of_lookup hl
      simp only [builtins, List.mem_cons, List.not_mem_nil, or_false, Prod.mk.injEq] at hm
      rcases hm with ⟨rfl, rfl⟩ | ⟨rfl, rfl⟩ | ⟨rfl, rfl⟩ | ⟨rfl, rfl⟩ | ⟨rfl, rfl⟩ | ⟨rfl, rfl⟩
      · exact go (.builtin "len") (by decide) (.inl ⟨_, rfl⟩) fun xs x vs h' tk hx hq k r => len_sound r hx hq (hQ.after k)
      · exact go (.builtin "min") (by decide) (.inl ⟨_, rfl⟩) fun xs x vs h' tk hx hq k r => min_sound (hand (by decide)) r hx hq (hQ.after k)
      · exact go (.builtin "max") (by decide) (.inl ⟨_, rfl⟩) fun xs x vs h' tk hx hq k r => max_sound (hand (by decide)) r hx hq (hQ.after k)
      · exact go (.builtin "abs") (by decide) (.inl ⟨_, rfl⟩) fun xs x vs h' tk hx hq k r => abs_sound r hx hq (hQ.after k)
      · exact go (.type "int") (by decide) (.inr (.inl ⟨_, rfl⟩)) fun xs x vs h' tk hx hq k r => int_sound r hx hq (hQ.after k)
      · exact go (.type "list") (by decide) (.inr (.inl ⟨_, rfl⟩)) fun xs x vs h' tk hx hq k r => list_sound (at_.ok.fin.keep k) (Nat.le_trans hN k.size) r hx hq (hQ.after k)

end
end Mine
end

section
set_option linter.unusedVariables false
namespace Mine
open PySem
variable {Z : Addr → Prop}

/-- the names of a target get their values, one by one -/
def Stores (X : Bx) (env : Env) : List (Str × Value) → (Unit → Shared → Prop) → (Value → Shared → Prop) → Shared → Prop
  | [], Q, _, s => Q () s
  | (x, v) :: r, Q, E, s => wpAny X.M X.A (storeName env x v) (fun _ s' => Stores X env r Q E s') E s
/-- the values bound, told by data -/
inductive BV (Z : Addr → Prop) (h : Heap) (sf : List Addr) : List (Str × Value) → Rho → Prop
  | nil : BV Z h sf [] []
  | cons {x v d as r t} : Rd Z h v d as → (∀ a ∈ as, a ∈ sf) → BV Z h sf r t → BV Z h sf ((x, v) :: r) ((x, .dat d) :: t)
/-- all stands but what is named -/
structure But (wr : List Addr) (h h' : Heap) : Prop where
  keep : ∀ b o, b ∉ wr → h.get? b = some o → h'.get? b = some o
  size : h.objs.size ≤ h'.objs.size
theorem But.trans {wr : List Addr} {h h' h'' : Heap} (x : But wr h h') (y : But wr h' h'') : But wr h h'' := ⟨fun b o n e => y.keep b o n (x.keep b o n e), Nat.le_trans x.size y.size⟩
/-- what a loop goes over stands as it stood -/
abbrev HK (Z : Addr → Prop) (hs : Heap) (sf : List Addr) (h : Heap) : Prop := Moves Z Z hs h (· ∈ sf)
theorem HK.refl (h : Heap) (sf : List Addr) : HK Z h sf h := ⟨fun _ _ _ nz e => ⟨nz, e⟩, fun _ _ _ _ e => e, fun _ _ o _ e _ => ⟨o.slots, e⟩⟩
/-- what an iterator writes: its own objects, no tuple that is read -/
def Wcls (Z : Addr → Prop) (wr : List Addr) (h : Heap) : Prop := ∀ b ∈ wr, ∃ o T, h.get? b = some o ∧ o.cls = .type T ∧ (¬ Z b → T ≠ "tuple")
theorem Wcls.notup {wr : List Addr} {h : Heap} (w : Wcls Z wr h) {b : Addr} (hb : b ∈ wr) (nz : ¬ Z b) {vs : Array Value} {n : Nat} (e : h.get? b = some (tupObj vs n)) : False := by
  obtain ⟨o, T, ho, hc, hT⟩ := w b hb
  rw [e] at ho; cases ho; cases hc
  exact hT nz rfl
theorem HK.step {hs h h' : Heap} {sf wr : List Addr} (k : HK Z hs sf h) (hk : But wr h h') (h1 : ∀ a ∈ sf, a ∉ wr) (w : Wcls Z wr h) : HK Z hs sf h' :=
  ⟨fun a vs n nz e => let e' := (k.tup a vs n nz e).2; ⟨nz, hk.keep a _ (fun m => w.notup m nz e') e'⟩, fun a ha vs n e => hk.keep a _ (h1 a ha) (k.lst a ha vs n e), fun a ha o n e hd => let ⟨sl, e'⟩ := k.dct a ha o n e hd; ⟨sl, hk.keep a _ (h1 a ha) e'⟩⟩

/-- an item is bound to the target, and the iterator goes on -/
def Bound (X : Bx) (Z : Addr → Prop) (I : Addr) (tgt : Expr) (sf wr : List Addr) (St : Heap → Prop) (β : Rho) (v : Value) (s s₁ : Shared) : Prop :=
  ∀ (env : Env) (Q' : Unit → Shared → Prop) (E' : Value → Shared → Prop), (∀ h₂ tk₂ βv, But wr s.heap h₂ → St h₂ → BV Z h₂ sf βv β → Stores X env βv Q' E' { s with heap := h₂, toks := tk₂ }) →
    wpAny X.M X.A (letOwnedTupleGo tgt (.ref I) v) (fun _ s₂ => wpAny X.M X.A (assign tgt env v) Q' E' s₂) E' s₁
/-- an iterator I over the data ds, whose items go to the target; it stands at hs; sf: the lists that it and the items bear; wr: what it writes -/
structure Itr (X : Bx) (Z : Addr → Prop) (I : Addr) (tgt : Expr) (ds : List PyData) (sf : List Addr) (hs : Heap) (wr : List Addr) (St : Nat → Heap → Prop) : Prop where
  start : St 0 hs
  sfwr : ∀ a ∈ sf, a ∉ wr
  wcls : ∀ i h, St i h → Wcls Z wr h
  frame : ∀ i h h', St i h → (∀ b ∈ wr, ∀ o, h.get? b = some o → h'.get? b = some o) → HK Z hs sf h' → St i h'
  turn : ∀ i (s : Shared) (d : PyData) (β : Rho) (Q : Option Value → Shared → Prop) (E : Value → Shared → Prop), ds[i]? = some d → bindT tgt d = some β → St i s.heap → HK Z hs sf s.heap →
    (∀ v h₁ tk₁, But wr s.heap h₁ → Bound X Z I tgt sf wr (St (i + 1)) β v s { s with heap := h₁, toks := tk₁ } → Q (some v) { s with heap := h₁, toks := tk₁ }) → wpAny X.M X.A (pyNext (.ref I)) Q E s
  done : ∀ (s : Shared) (Q : Option Value → Shared → Prop) (E : Value → Shared → Prop), St ds.length s.heap → HK Z hs sf s.heap → (∀ h₁ tk₁, But wr s.heap h₁ → Q none { s with heap := h₁, toks := tk₁ }) → wpAny X.M X.A (pyNext (.ref I)) Q E s
  self : ∀ i (s : Shared) (Q : Value → Shared → Prop) (E : Value → Shared → Prop), St i s.heap → Q (.ref I) s → wpAny X.M X.A (pyIter (.ref I)) Q E s

section
variable {X : Bx} {wl : WLv} {env : Env} {ρ : Rho} {P : Addr → Prop} {N : Nat} {s : Shared} {L : Option Addr} {Xw : Str → Prop} {Q E : Value → Shared → Prop}

def nameVals (es : List Expr) (vs : List Value) : List (Str × Value) := (es.zip vs).filterMap (fun p => match p.1 with | .Name x _ => some (x, p.2) | _ => none)
inductive Tgts (Z : Addr → Prop) (h : Heap) (sf : List Addr) (X : Bx) (env : Env) (es : List Expr) (vs : List Value) (ds : List PyData) (β : Rho) : Prop
  | mk (l : (assignEach es env).length = ds.length) (n : (assignEach es env).findIdx? (·.1) = none) (b : BV Z h sf (nameVals es vs) β)
    (st : ∀ (Q' : Unit → Shared → Prop) (E' : Value → Shared → Prop) (s : Shared), Stores X env (nameVals es vs) Q' E' s → wpAny X.M X.A (assignInOrder ((assignEach es env).map (·.2)) vs) Q' E' s)
/-- names that get the parts of a tuple -/
theorem tgts {h : Heap} {sf : List Addr} : ∀ (es : List Expr) {ds : List PyData} {vs : List Value} {β : Rho} {as : List Addr}, targets es ds = some β → RdAll Z h vs ds as → (∀ a ∈ as, a ∈ sf) → Tgts Z h sf X env es vs ds β
  | [], ds, vs, β, as, ht, r, hs => by
    cases r with
    | nil => cases ht; exact ⟨rfl, rfl, .nil, fun _ _ _ h => wpAny_pure h⟩
    | cons => cases ht
  | e :: es, ds, vs, β, as, ht, r, hs => by
    cases r with
    | nil => cases ht
    | @cons v vs d ds as bs a r =>
      unfold targets at ht
      split at ht
      · rename_i x hx
        cases nameOf_eq hx
        obtain ⟨β', h', rfl⟩ := Option.map_eq_some_iff.mp ht
        obtain ⟨t1, t2, t3, t4⟩ := tgts es h' r fun z hz => hs z (List.mem_append_right _ hz)
        refine ⟨congrArg (· + 1) t1, ?_, .cons a (fun z hz => hs z (List.mem_append_left _ hz)) t3, fun Q' E' s h => ?_⟩
        · show List.findIdx? _ ((false, assign (.Name x.1 x.2) env) :: assignEach es env) = none
          rw [List.findIdx?_cons, t2]; rfl
        · exact wpAny_bind (wpAny_holding (wpAny_assign_Name (wpAny_mono h (fun _ s' z => t4 Q' E' s' z) fun _ _ z => z)))
      · cases ht

/-- the parts of a tuple go to names -/
theorem assign_parts {es : List Expr} {kk : Nat} {pp : Pos} {ds : List PyData} {β : Rho} {t : Addr} {vs : Array Value} {as sf : List Addr} {Q' : Unit → Shared → Prop} {E' : Value → Shared → Prop} (hh : X.A.handled = none) (hβ : targets es ds = some β) (hT : s.heap.IsTuple t vs) (rr : RdAll Z s.heap vs.toList ds as) (hs : ∀ a ∈ as, a ∈ sf)
    (h : ∀ h₂ βv, s.heap.StaysIn h₂ → s.heap.objs.size ≤ h₂.objs.size → BV Z h₂ sf βv β → Stores X env βv Q' E' { s with heap := h₂ }) : wpAny X.M X.A (assign (.Tuple es kk pp) env (.ref t)) Q' E' s := by
  have hl := rr.length
  simp only [Array.length_toList] at hl
  obtain ⟨t1, t2, _, _⟩ := tgts (X := X) (env := env) es hβ rr hs
  rw [arm_assign_Tuple]
  refine wpAny_bind (wpAny_standAt ?_)
  unfold unpack
  rw [t1, ← hl, t2]
  refine wpAny_bind (wpAny_holding (wpAny_sized (wpAny_unpackItems_tuple hh hT fun h' hk hsz => ?_)))
  have hk' : s.heap.StaysIn h' := fun b o eb => hk b o (Nat.ne_of_lt (Heap.lt_size eb)) eb
  obtain ⟨_, _, t3, t4⟩ := tgts (X := X) (env := env) es hβ (rr.stays hk') hs
  exact t4 _ _ _ (h h' _ hk' hsz t3)
/-- a value of the heap goes to a target: a name, or names for the parts of a tuple -/
theorem assign_target {tgt : Expr} {d : PyData} {β : Rho} {v : Value} {as sf : List Addr} {Q' : Unit → Shared → Prop} {E' : Value → Shared → Prop} (hh : X.A.handled = none) (hβ : bindT tgt d = some β) (r : Rd Z s.heap v d as) (hs : ∀ a ∈ as, a ∈ sf)
    (h : ∀ h₂ βv, s.heap.StaysIn h₂ → s.heap.objs.size ≤ h₂.objs.size → BV Z h₂ sf βv β → Stores X env βv Q' E' { s with heap := h₂ }) : wpAny X.M X.A (assign tgt env v) Q' E' s := by
  unfold bindT at hβ
  split at hβ
  · cases hβ
    exact wpAny_assign_Name (h s.heap [(_, v)] (fun _ _ e => e) (Nat.le_refl _) (.cons r hs .nil))
  · cases r with
    | tuple nz e z rr => exact assign_parts hh hβ ⟨_, e, rfl, _, rfl⟩ rr hs h
  · cases hβ

/-- what is done with an iterator -/
def KIt (X : Bx) (Z P : Addr → Prop) (N : Nat) (s : Shared) (tgt : Expr) (Dw : List PyData → Prop) (Q : Value → Shared → Prop) : Prop :=
  ∀ ds h' tk I Z' sf wr St, Dw ds → Keep (fsOf X.A) s.heap h' → Itr X Z' I tgt ds sf h' wr St → (∀ a, Z a → Z' a) → (∀ a, Z' a → Z a ∨ (s.heap.objs.size ≤ a ∧ a < h'.objs.size)) → (∀ b ∈ wr, s.heap.objs.size ≤ b ∧ b < h'.objs.size) →
    (∀ a ∈ sf, (P a ∨ N ≤ a) ∧ a < h'.objs.size) → ds.length ≤ sizeLine → Q (.ref I) { s with heap := h', toks := tk }
theorem KIt.after {tgt : Expr} {Dw : List PyData → Prop} (hQ : KIt X Z P N s tgt Dw Q) {h₁ : Heap} {tk₁ : Nat} (k : Keep (fsOf X.A) s.heap h₁) : KIt X Z P N { s with heap := h₁, toks := tk₁ } tgt Dw Q := fun ds h' tk I Z' sf wr St hd k' it z z' w sp l =>
  hQ ds h' tk I Z' sf wr St hd (k.trans k') it z (fun a ha => (z' a ha).imp id fun q => ⟨Nat.le_trans k.size q.1, q.2⟩) (fun b hb => ⟨Nat.le_trans k.size (w b hb).1, (w b hb).2⟩) sp l

/-- an iterator of one new object, that writes itself alone -/
theorem itr_one {tgt : Expr} {ds : List PyData} {sf : List Addr} {Dw : List PyData → Prop} {o : Obj} {T : String} {G : Nat → Obj → Prop} (hQ : KIt X Z P N s tgt Dw Q) (hd : Dw ds) (hl : ds.length ≤ sizeLine) (hsf : ∀ a ∈ sf, (P a ∨ N ≤ a) ∧ a < s.heap.objs.size) (h0 : G 0 o) (hf : o.isFreed = false) (hT : ∀ i o, G i o → o.cls = .type T) (nT : T ≠ "tuple")
    (turn : ∀ i (s' : Shared) (d : PyData) (β : Rho) (Q' : Option Value → Shared → Prop) (E' : Value → Shared → Prop), ds[i]? = some d → bindT tgt d = some β → (∃ o, s'.heap.get? s.heap.objs.size = some o ∧ G i o) → HK Z (s.heap.push o) sf s'.heap →
      (∀ v h₁ tk₁, But [s.heap.objs.size] s'.heap h₁ → Bound X Z s.heap.objs.size tgt sf [s.heap.objs.size] (fun h => ∃ o, h.get? s.heap.objs.size = some o ∧ G (i + 1) o) β v s' { s' with heap := h₁, toks := tk₁ } → Q' (some v) { s' with heap := h₁, toks := tk₁ }) → wpAny X.M X.A (pyNext (.ref s.heap.objs.size)) Q' E' s')
    (done : ∀ (s' : Shared) (Q' : Option Value → Shared → Prop) (E' : Value → Shared → Prop), (∃ o, s'.heap.get? s.heap.objs.size = some o ∧ G ds.length o) → HK Z (s.heap.push o) sf s'.heap → (∀ h₁ tk₁, But [s.heap.objs.size] s'.heap h₁ → Q' none { s' with heap := h₁, toks := tk₁ }) → wpAny X.M X.A (pyNext (.ref s.heap.objs.size)) Q' E' s')
    (self : ∀ i (s' : Shared) (Q' : Value → Shared → Prop) (E' : Value → Shared → Prop), (∃ o, s'.heap.get? s.heap.objs.size = some o ∧ G i o) → Q' (.ref s.heap.objs.size) s' → wpAny X.M X.A (pyIter (.ref s.heap.objs.size)) Q' E' s') : Q (.ref s.heap.objs.size) { s with heap := s.heap.push o } := by
  have hsz : (s.heap.push o).objs.size = s.heap.objs.size + 1 := Heap.size_push ..
  refine hQ ds (s.heap.push o) s.toks s.heap.objs.size Z sf [s.heap.objs.size] (fun i h => ∃ o, h.get? s.heap.objs.size = some o ∧ G i o) hd (Keep.push _ _ _) ⟨⟨o, Heap.get?_push_size _ hf, h0⟩, fun a ha m => ?_, fun i h st b hb => ?_, fun i h h' st k _ => ?_, turn, done, self⟩ (fun _ h => h) (fun _ h => .inl h) (fun b hb => ?_)
    (fun a ha => ⟨(hsf a ha).1, by rw [hsz]; exact Nat.lt_succ_of_lt (hsf a ha).2⟩) hl
  · cases List.mem_singleton.mp m; exact Nat.lt_irrefl _ (hsf _ ha).2
  · cases List.mem_singleton.mp hb
    obtain ⟨o, ho, hg⟩ := st
    exact ⟨o, T, ho, hT i o hg, fun _ => nT⟩
  · obtain ⟨o, ho, hg⟩ := st
    exact ⟨o, k _ (.head _) o ho, hg⟩
  · cases List.mem_singleton.mp hb; exact ⟨Nat.le_refl _, by rw [hsz]; exact Nat.lt_succ_self _⟩
theorem but_of {I : Addr} {h h' : Heap} (sb : Heap.SameBut I h h') : But [I] h h' := ⟨fun b o hb x => sb.extBut b o (fun q => hb (by rw [q]; exact .head _)) x, Nat.le_of_eq sb.1.symm⟩

/-- an item that is read goes to its target -/
theorem bound_of {I : Addr} {tgt : Expr} {sf wr : List Addr} {St : Heap → Prop} {d : PyData} {β : Rho} {v : Value} {as : List Addr} {h' : Heap} {tk : Nat} (hh : X.A.handled = none) (hβ : bindT tgt d = some β) (r : Rd Z h' v d as) (hs : ∀ a ∈ as, a ∈ sf) (b : But wr s.heap h') (st : ∀ h₂, h'.StaysIn h₂ → St h₂)
    (skip : ∀ (Q : Unit → Shared → Prop) (E : Value → Shared → Prop), Q () { s with heap := h', toks := tk } → wpAny X.M X.A (letOwnedTupleGo tgt (.ref I) v) Q E { s with heap := h', toks := tk }) : Bound X Z I tgt sf wr St β v s { s with heap := h', toks := tk } := fun env Q' E' k =>
  skip _ _ (assign_target (s := { s with heap := h', toks := tk }) hh hβ r hs fun h₂ βv k2 z2 bv => k h₂ tk βv ⟨fun b' o hb x => k2 b' o (b.keep b' o hb x), Nat.le_trans b.size z2⟩ (st h₂ k2) bv)

theorem itr_list {tgt : Expr} {l : Addr} {vs : Array Value} {c : Nat} {ds : List PyData} {as : List Addr} {Dw : List PyData → Prop} {f : Bool} (hh : X.A.handled = none) (e : s.heap.get? l = some (lstObj vs c)) (z : vs.size ≤ sizeLine) (r : RdAll Z s.heap vs.toList ds as) (fx : Fp f P N (l :: as)) (hd : Dw ds) (hQ : KIt X Z P N s tgt Dw Q) :
    wpAny X.M X.A (pyIter (.ref l)) Q E s := by
  have hlen : vs.size = ds.length := by have := r.length; simpa using this
  have rH : RdAll Z (s.heap.push { cls := .type "list_iterator", data := .fields #[.ref l, .int 0 0] }) vs.toList ds as := r.stays (push_stays _ _)
  refine wpAny_pyIter_list (IsL.isList e) (itr_one (sf := l :: as) (T := "list_iterator") (G := fun i o => o.cls = .type "list_iterator" ∧ o.data = .fields #[.ref l, rawInt i]) hQ hd (by rw [← hlen]; exact z) (fun a ha => ⟨(fx a ha).imp (fun z => z.2) id, (List.mem_cons.mp ha).elim (fun q => q ▸ Heap.lt_size e) (r.lt a)⟩) ⟨rfl, rfl⟩ rfl (fun _ _ g => g.1) (by decide) ?_ ?_ fun i s' Q' E' st hQ => wpAny_pyIter_listiter st hQ)
  · intro i s' d β Q' E' hd hβ st hk hQ'
    obtain ⟨v, bs, e1, e2, e3⟩ := rH.get i d hd
    refine wpAny_pyNext_list_item st (IsL.isList (hk.lst l (.head _) _ _ (push_stays _ _ _ _ e))) (x := v) (by simpa using e1) fun h' hit' hs' => ?_
    have b := but_of hs'
    have w : Wcls Z [s.heap.objs.size] s'.heap := fun b hb => by cases List.mem_singleton.mp hb; obtain ⟨o, ho, hc, _⟩ := st; exact ⟨o, _, ho, hc, fun _ => by decide⟩
    have rv' : Rd Z h' v d bs := e2.move (hk.step b (fun a ha m => by cases List.mem_singleton.mp m; exact (List.mem_cons.mp ha).elim (fun q => Nat.lt_irrefl _ (q ▸ Heap.lt_size e)) fun m => Nat.lt_irrefl _ (r.lt _ m)) w) fun a ha => .tail _ (e3 a ha)
    refine hQ' v h' s'.toks b (bound_of (s := s') hh hβ rv' (fun a ha => .tail _ (e3 a ha)) b (fun h₂ k2 => hit'.at fun o x => k2 _ o x) fun Q E h => ?_)
    unfold bindT at hβ
    split at hβ
    · exact wpAny_pure h
    · cases rv' with
      | tuple => exact wpAny_letOwnedTupleGo_listiter hit' h
    · cases hβ
  · intro s' Q' E' st hk hQ'
    exact wpAny_sized (wpAny_pyNext_list_end hh st (IsL.isList (hk.lst l (.head _) _ _ (push_stays _ _ _ _ e))) (by rw [← hlen]; simp) fun h' he' hsz => hQ' h' s'.toks ⟨fun b o hb x => he' b o (fun q => hb (by rw [q]; exact .head _)) x, hsz⟩)

/-- a list is gone over from its end -/
theorem itr_rev {x : Str} {px : Pos} {l : Addr} {vs : Array Value} {c : Nat} {ds : List PyData} {as : List Addr} {Dw : List PyData → Prop} {f : Bool} (hh : X.A.handled = none) (e : s.heap.get? l = some (lstObj vs c)) (z : vs.size ≤ sizeLine) (r : RdAll Z s.heap vs.toList ds as) (fx : Fp f P N (l :: as)) (hd : Dw ds.reverse) (hQ : KIt X Z P N s (.Name x px) Dw Q) :
    wpAny X.M X.A (call (.type "reversed") [.ref l]) (fun x s₁ => wpAny X.M X.A (pyIter x) Q E s₁) E s := by
  have hlen : vs.size = ds.length := by have := r.length; simpa using this
  have rH : RdAll Z (s.heap.push (revObj l ((vs.size : Int) - 1))) vs.toList ds as := r.stays (push_stays _ _)
  have e0 : ∀ i : Nat, i < ds.length → (vs.size : Int) - 1 - (i : Int) = ((ds.length - 1 - i : Nat) : Int) := fun i hi => by omega
  refine call_reversed_list (IsL.isList e) (wpAny_pyIter_revIter (l := l) (i := (vs.size : Int) - 1) (s := { s with heap := s.heap.push (revObj l ((vs.size : Int) - 1)) }) ⟨_, Heap.get?_push_size _ rfl, rfl, rfl⟩ ?_)
  refine itr_one (sf := l :: as) (T := "list_reverseiterator") (o := revObj l ((vs.size : Int) - 1)) (G := fun i o => o.cls = .type "list_reverseiterator" ∧ o.data = .fields #[.ref l, rawInt ((vs.size : Int) - 1 - (i : Int))]) hQ hd (by rw [List.length_reverse, ← hlen]; exact z) (fun a ha => ⟨(fx a ha).imp (fun z => z.2) id, (List.mem_cons.mp ha).elim (fun q => q ▸ Heap.lt_size e) (r.lt a)⟩) ⟨rfl, by simp [revObj]⟩ rfl (fun _ _ g => g.1) (by decide) ?_ ?_ fun i s' Q' E' st hQ => wpAny_pyIter_revIter st hQ
  · intro i s' d β Q' E' hd hβ st hk hQ'
    have hi : i < ds.length := by have := (List.getElem?_eq_some_iff.mp hd).1; rwa [List.length_reverse] at this
    rw [List.getElem?_reverse hi] at hd
    obtain ⟨v, bs, e1, e2, e3⟩ := rH.get _ d hd
    have st' : s'.heap.IsRevIter s.heap.objs.size l ((ds.length - 1 - i : Nat) : Int) := by rw [← e0 i hi]; exact st
    refine wpAny_pyNext_rev_item st' (IsL.isList (hk.lst l (.head _) _ _ (push_stays _ _ _ _ e))) (x := v) (by simpa using e1) fun h' hit' hs' => ?_
    have b := but_of hs'
    have w : Wcls Z [s.heap.objs.size] s'.heap := fun b hb => by cases List.mem_singleton.mp hb; obtain ⟨o, ho, hc, _⟩ := st; exact ⟨o, _, ho, hc, fun _ => by decide⟩
    have rv' : Rd Z h' v d bs := e2.move (hk.step b (fun a ha m => by cases List.mem_singleton.mp m; exact (List.mem_cons.mp ha).elim (fun q => Nat.lt_irrefl _ (q ▸ Heap.lt_size e)) fun m => Nat.lt_irrefl _ (r.lt _ m)) w) fun a ha => .tail _ (e3 a ha)
    have hit2 : h'.IsRevIter s.heap.objs.size l ((vs.size : Int) - 1 - ((i + 1 : Nat) : Int)) := by
      rw [show (vs.size : Int) - 1 - ((i + 1 : Nat) : Int) = ((ds.length - 1 - i : Nat) : Int) - 1 by omega]; exact hit'
    exact hQ' v h' s'.toks b (bound_of (s := s') hh hβ rv' (fun a ha => .tail _ (e3 a ha)) b (fun h₂ k2 => hit2.at fun o x => k2 _ o x) fun Q E h => wpAny_pure h)
  · intro s' Q' E' st hk hQ'
    rw [List.length_reverse] at st
    have st' : s'.heap.IsRevIter s.heap.objs.size l (-1) := by rw [show (-1 : Int) = (vs.size : Int) - 1 - (ds.length : Int) by omega]; exact st
    exact wpAny_sized (wpAny_pyNext_rev_end hh st' fun h' he' hsz => hQ' h' s'.toks ⟨fun b o hb x => he' b o (fun q => hb (by rw [q]; exact .head _)) x, hsz⟩)

theorem itr_tuple {x : Str} {px : Pos} {l : Addr} {vs : Array Value} {c : Nat} {ds : List PyData} {as : List Addr} {Dw : List PyData → Prop} {f : Bool} (hh : X.A.handled = none) (nzl : ¬ Z l) (e : s.heap.get? l = some (tupObj vs c)) (z : vs.size ≤ sizeLine) (r : RdAll Z s.heap vs.toList ds as) (fx : Fp f P N as) (hd : Dw ds) (hQ : KIt X Z P N s (.Name x px) Dw Q) :
    wpAny X.M X.A (pyIter (.ref l)) Q E s := by
  have hlen : vs.size = ds.length := by have := r.length; simpa using this
  have rH : RdAll Z (s.heap.push { cls := .type "tuple_iterator", data := .fields #[.ref l, .int 0 0] }) vs.toList ds as := r.stays (push_stays _ _)
  refine wpAny_pyIter_tuple ⟨_, e, rfl, c, rfl⟩ (itr_one (sf := as) (T := "tuple_iterator") (G := fun i o => o.cls = .type "tuple_iterator" ∧ o.data = .fields #[.ref l, rawInt i]) hQ hd (by rw [← hlen]; exact z) (fun a ha => ⟨(fx a ha).imp (fun z => z.2) id, r.lt a ha⟩) ⟨rfl, rfl⟩ rfl (fun _ _ g => g.1) (by decide) ?_ ?_ fun i s' Q' E' st hQ => wpAny_pyIter_tupleiter st hQ)
  · intro i s' d β Q' E' hd hβ st hk hQ'
    obtain ⟨v, bs, e1, e2, e3⟩ := rH.get i d hd
    refine wpAny_pyNext_tuple_item st ⟨_, (hk.tup l _ _ nzl (push_stays _ _ _ _ e)).2, rfl, c, rfl⟩ (x := v) (by simpa using e1) fun h' hit' hs' => ?_
    have b := but_of hs'
    have w : Wcls Z [s.heap.objs.size] s'.heap := fun b hb => by cases List.mem_singleton.mp hb; obtain ⟨o, ho, hc, _⟩ := st; exact ⟨o, _, ho, hc, fun _ => by decide⟩
    have rv' : Rd Z h' v d bs := e2.move (hk.step b (fun a ha m => by cases List.mem_singleton.mp m; exact Nat.lt_irrefl _ (r.lt _ ha)) w) e3
    exact hQ' v h' s'.toks b (bound_of (s := s') hh hβ rv' e3 b (fun h₂ k2 => hit'.at fun o x => k2 _ o x) fun Q E h => wpAny_pure h)
  · intro s' Q' E' st hk hQ'
    exact wpAny_sized (wpAny_pyNext_tuple_end hh st ⟨_, (hk.tup l _ _ nzl (push_stays _ _ _ _ e)).2, rfl, c, rfl⟩ (by rw [← hlen]; simp) fun h' he' hsz => hQ' h' s'.toks ⟨fun b o hb x => he' b o (fun q => hb (by rw [q]; exact .head _)) x, hsz⟩)

theorem rangeLen_le {a b c : Int} (hc : 0 < c) (ha : small a = true) (hb : small b = true) : rangeLen a b c ≤ 2000001 := by
  unfold small at ha hb
  simp only [Bool.and_eq_true, decide_eq_true_eq] at ha hb
  unfold rangeLen
  split
  · have : (b - a - 1) / c ≤ b - a - 1 := Int.ediv_le_self _ (by omega)
    omega
  · omega
theorem itr_range {rg : Addr} {a b c : Int} {t u w : Tok} {x : Str} {px : Pos} {Dw : List PyData → Prop} (hh : X.A.handled = none) (hc : 0 < c) (ha : small a = true) (hb : small b = true) (hcs : small c = true) (hr : IsRange s.heap rg a b c t u w) (hd : Dw (rangeUp a (rangeLen a b c) c)) (hQ : KIt X Z P N s (.Name x px) Dw Q) :
    wpAny X.M X.A (pyIter (.ref rg)) Q E s := by
  have hle := rangeLen_le hc ha hb
  have hsz : Builtin.Range.rangeSize a b c = (rangeLen a b c : Int) := by
    unfold Builtin.Range.rangeSize rangeLen
    rw [if_pos hc]
    split
    · have : 0 ≤ (b - a - 1) / c := Int.ediv_nonneg (by omega) (by omega)
      omega
    · rfl
  have hsm : Builtin.Range.small a b c = true := by
    unfold small at ha hb hcs
    simp only [Bool.and_eq_true, decide_eq_true_eq] at ha hb hcs
    unfold Builtin.Range.small Builtin.Range.rangeFitsLong
    rw [hsz]
    simp only [Bool.and_eq_true, Bool.or_eq_true, decide_eq_true_eq, beq_iff_eq, if_pos hc]
    omega
  have hlen : (rangeUp a (rangeLen a b c) c).length = rangeLen a b c := by simp [rangeUp]
  have key := wpAny_pyIter_range (prog := X.C.prog) (w := X.C.w) (A := X.A) (E := E) (Q := Q) hr hsm
  rw [hsz] at key
  refine key (itr_one (sf := []) (T := "range_iterator") (G := fun i o => o = { cls := .type "range_iterator", data := .fields #[rawInt (a + (i : Nat) * c), rawInt ((rangeLen a b c : Int) - (i : Nat)), rawInt c] }) hQ hd (by rw [hlen, sizeLine_eq]; omega) (fun a ha => nomatch ha) (by simp) rfl (fun _ _ g => by rw [g]) (by decide) ?_ ?_ fun i s' Q' E' st hQ => wpAny_pyIter_rangeiter (by obtain ⟨_, h, rfl⟩ := st; exact h) hQ)
  · intro i s' d β Q' E' hd hβ st hk hQ'
    obtain ⟨_, st, rfl⟩ := st
    have hi : i < rangeLen a b c := by have := (List.getElem?_eq_some_iff.mp hd).1; rwa [hlen] at this
    have hdv : d = .int (a + (i : Int) * c) := by
      simp only [rangeUp, List.getElem?_map, List.getElem?_range hi, Option.map_some, Option.some.injEq] at hd
      exact hd.symm
    subst hdv
    cases hβ
    refine wpAny_pyNext_range_item (it := s.heap.objs.size) st (by omega) fun h' hit' hs' => ?_
    have b' := but_of hs'
    refine hQ' _ h' (s'.toks + 1) b' fun env Q₂ E₂ k => wpAny_pure (wpAny_assign_Name (k h' (s'.toks + 1) [(x, _)] b' ⟨_, hit', ?_⟩ (.cons (Rd.int _ _) (fun _ m => nomatch m) .nil)))
    have e1 : a + ((i + 1 : Nat) : Int) * c = a + (i : Int) * c + c := by push_cast; rw [Int.add_mul, Int.one_mul, Int.add_assoc]
    have e2 : (rangeLen a b c : Int) - ((i + 1 : Nat) : Int) = (rangeLen a b c : Int) - (i : Int) - 1 := by push_cast; omega
    rw [e1, e2]
  · intro s' Q' E' st hk hQ'
    obtain ⟨_, st, rfl⟩ := st
    rw [hlen] at st
    exact wpAny_sized (wpAny_pyNext_range_end (it := s.heap.objs.size) hh st (by omega) fun h' he' hsz => hQ' h' s'.toks ⟨fun b o hb x => he' b o (fun q => hb (by rw [q]; exact .head _)) x, hsz⟩)

end
end Mine
end

section
set_option linter.unusedVariables false
namespace Mine
open PySem
variable {Z : Addr → Prop}

theorem pairs_get : ∀ (xs ys : List PyData) (i : Nat) (d : PyData), (pairs xs ys)[i]? = some d → ∃ a b, xs[i]? = some a ∧ ys[i]? = some b ∧ d = .tuple [a, b]
  | [], _, i, d, h => by simp [pairs] at h
  | _ :: _, [], i, d, h => by simp [pairs] at h
  | x :: xs, y :: ys, 0, d, h => by simp [pairs] at h; exact ⟨x, y, rfl, rfl, h.symm⟩
  | x :: xs, y :: ys, i + 1, d, h => by simp [pairs] at h; simpa using pairs_get xs ys i d h
theorem pairs_length : ∀ (xs ys : List PyData), (pairs xs ys).length = min xs.length ys.length
  | [], _ => by simp [pairs]
  | _ :: _, [] => by simp [pairs]
  | x :: xs, y :: ys => by simp [pairs, pairs_length xs ys]

/-- a zip's iterator between two items -/
def ZipSt (z TI TO i1 i2 l1 l2 : Addr) (xs ys : Array Value) (i : Nat) (h : Heap) : Prop := IsZip h z TI TO .none ∧ IsPair h TI (.ref i1) (.ref i2) ∧ (∃ a b, IsPair h TO a b) ∧ h.IsListIter i1 l1 i ∧ h.IsListIter i2 l2 i ∧ h.IsList l1 xs ∧ h.IsList l2 ys
section
variable {X : Bx} {wl : WLv} {env : Env} {ρ : Rho} {P : Addr → Prop} {N : Nat} {s : Shared} {L : Option Addr} {Xw : Str → Prop} {Q E : Value → Shared → Prop}

theorem itr_zip {l1 l2 : Addr} {xs ys : Array Value} {c1 c2 : Nat} {ds1 ds2 : List PyData} {as1 as2 : List Addr} {es : List Expr} {kk : Nat} {pp : Pos} {f g : Bool} {Dw : List PyData → Prop} (hh : X.A.handled = none) (hz : ∀ a, Z a → a < s.heap.objs.size)
    (e1 : s.heap.get? l1 = some (lstObj xs c1)) (z1 : xs.size ≤ sizeLine) (r1 : RdAll Z s.heap xs.toList ds1 as1) (f1 : Fp f P N (l1 :: as1)) (e2 : s.heap.get? l2 = some (lstObj ys c2)) (r2 : RdAll Z s.heap ys.toList ds2 as2) (f2 : Fp g P N (l2 :: as2)) (hd : Dw (pairs ds1 ds2)) (hQ : KIt X Z P N s (.Tuple es kk pp) Dw Q) :
    wpAny X.M X.A (call (.type "zip") [.ref l1, .ref l2]) (fun x s₁ => wpAny X.M X.A (pyIter x) Q E s₁) E s := by
  refine call_zip_2 (IsL.isList e1) (IsL.isList e2) fun H iz pTI pTO it1 it2 hsz up => ?_
  have up' : s.heap.StaysIn H := up
  have lt1 : @LT.lt Nat _ l1 s.heap.objs.size := Heap.lt_size e1
  have lt2 : @LT.lt Nat _ l2 s.heap.objs.size := Heap.lt_size e2
  have D : ZipApart (s.heap.objs.size + 4) (s.heap.objs.size + 2) (s.heap.objs.size + 3) s.heap.objs.size (s.heap.objs.size + 1) l1 l2 := by constructor <;> (refine fun (q : @Eq Nat _ _) => ?_; omega)
  have W := WalksT.zip2 (prog := X.C.prog) (w := X.C.w) (A := X.A) hh _ _ _ _ _ l1 l2 D xs ys
  have hl1 : xs.size = ds1.length := by have := r1.length; simpa using this
  have hl2 : ys.size = ds2.length := by have := r2.length; simpa using this
  generalize hZ' : (fun a => Z a ∨ a = s.heap.objs.size + 3) = Z'
  generalize hsf : l1 :: as1 ++ l2 :: as2 = sf
  generalize hwr : [s.heap.objs.size + 4, s.heap.objs.size + 3, s.heap.objs.size, s.heap.objs.size + 1] = wr
  have mv : Moves Z Z' s.heap s.heap fun _ => True := bar_moves fun (a : Nat) ha q => by subst hZ'; exact q.elim id fun (q : a = s.heap.objs.size + 3) => by omega
  have r1' : RdAll Z' H xs.toList ds1 as1 := (r1.move mv fun _ _ => trivial).stays up'
  have r2' : RdAll Z' H ys.toList ds2 as2 := (r2.move mv fun _ _ => trivial).stays up'
  have m1 : l1 ∈ sf := by subst hsf; simp
  have m2 : l2 ∈ sf := by subst hsf; simp
  have olt : ∀ a ∈ sf, (P a ∨ N ≤ a) ∧ @LT.lt Nat _ a s.heap.objs.size := fun a ha => by
    subst hsf
    rcases List.mem_append.mp ha with ha | ha
    · exact ⟨(f1 a ha).imp (fun z => z.2) id, (List.mem_cons.mp ha).elim (fun q => q ▸ lt1) (r1.lt a)⟩
    · exact ⟨(f2 a ha).imp (fun z => z.2) id, (List.mem_cons.mp ha).elim (fun q => q ▸ lt2) (r2.lt a)⟩
  have wrs : ∀ b ∈ wr, @LE.le Nat _ s.heap.objs.size b ∧ @LT.lt Nat _ b (s.heap.objs.size + 5) := fun b hb => by
    subst hwr
    simp only [List.mem_cons, List.not_mem_nil, or_false] at hb
    rcases hb with q | q | q | q <;> (have q' : @Eq Nat _ _ := q; omega)
  have sfwr : ∀ a ∈ sf, a ∉ wr := fun a ha m => Nat.lt_irrefl _ (Nat.lt_of_lt_of_le (olt a ha).2 (wrs a m).1)
  have wc : ∀ i h, ZipSt (s.heap.objs.size + 4) (s.heap.objs.size + 2) (s.heap.objs.size + 3) s.heap.objs.size (s.heap.objs.size + 1) l1 l2 xs ys i h → Wcls Z' wr h := fun i h st b m => by
    obtain ⟨iz, _, ⟨p1, p2, pTO⟩, ⟨o1, ho1, hc1, _⟩, ⟨o2, ho2, hc2, _⟩, _, _⟩ := st
    subst hwr
    simp only [List.mem_cons, List.not_mem_nil, or_false] at m
    rcases m with rfl | rfl | rfl | rfl
    · exact ⟨_, _, iz, rfl, fun _ => by decide⟩
    · exact ⟨_, _, pTO, rfl, fun nz => absurd (by subst hZ'; exact .inr rfl) nz⟩
    · exact ⟨o1, _, ho1, hc1, fun _ => by decide⟩
    · exact ⟨o2, _, ho2, hc2, fun _ => by decide⟩
  have nTI : ¬ Z' (s.heap.objs.size + 2) := by
    subst hZ'
    exact fun q => q.elim (fun q => by have q' : @LT.lt Nat _ _ _ := hz _ q; omega) fun (q : s.heap.objs.size + 2 = s.heap.objs.size + 3) => by omega
  refine W.self 0 _ _ _ ⟨iz, pTI, ⟨_, _, pTO⟩, it1, it2, IsL.isList (up _ _ e1), IsL.isList (up _ _ e2)⟩ ?_
  refine hQ (pairs ds1 ds2) H s.toks (s.heap.objs.size + 4) Z' sf wr (ZipSt (s.heap.objs.size + 4) (s.heap.objs.size + 2) (s.heap.objs.size + 3) s.heap.objs.size (s.heap.objs.size + 1) l1 l2 xs ys) hd (size_le_of_keeps up (by rw [hsz]; exact Nat.le_add_right _ _) _)
    ⟨⟨iz, pTI, ⟨_, _, pTO⟩, it1, it2, IsL.isList (up _ _ e1), IsL.isList (up _ _ e2)⟩, sfwr, wc, ?_, ?_, ?_, fun i s' Q' E' st hQ => W.self i s' Q' E' st hQ⟩ (fun a h => by subst hZ'; exact .inl h) (fun a h => ?_) (fun b hb => ⟨(wrs b hb).1, by rw [hsz]; exact (wrs b hb).2⟩) (fun a ha => ⟨(olt a ha).1, by rw [hsz]; exact Nat.lt_of_lt_of_le (olt a ha).2 (Nat.le_add_right _ _)⟩) (by rw [pairs_length, ← hl1]; exact Nat.le_trans (Nat.min_le_left _ _) z1)
  · intro i h h' st k hk
    subst hwr
    obtain ⟨q1, q2, ⟨a, b, q3⟩, q4, q5, _, _⟩ := st
    exact ⟨k _ (by simp) _ q1, (hk.tup _ _ _ nTI pTI).2, ⟨a, b, k _ (by simp) _ q3⟩, q4.at fun o x => k _ (by simp) o x, q5.at fun o x => k _ (by simp) o x, IsL.isList (hk.lst l1 m1 _ _ (up _ _ e1)), IsL.isList (hk.lst l2 m2 _ _ (up _ _ e2))⟩
  · intro i s' d β Q' E' hd hβ st hk hQ'
    obtain ⟨d1, d2, g1, g2, rfl⟩ := pairs_get _ _ _ _ hd
    have hi : i < min xs.size ys.size := by
      have a := (List.getElem?_eq_some_iff.mp g1).1
      have b := (List.getElem?_eq_some_iff.mp g2).1
      rw [← hl1] at a; rw [← hl2] at b
      exact Nat.lt_min.mpr ⟨a, b⟩
    have w := wc i _ st
    refine wpAny_sized (W.item i s' _ _ hi st fun T vals h' tk hP hT hTt hMid hkeep hsz' => ?_)
    obtain ⟨x, y, hx, hy, rfl⟩ := hP
    have b1 : But wr s'.heap h' := ⟨by subst hwr; exact hkeep, hsz'⟩
    refine hQ' _ h' tk b1 fun env Q₂ E₂ kk' => ?_
    refine wpAny_sized (W.go _ _ _ i T _ _ _ hMid fun h'' st'' hkeep'' hsz'' => ?_)
    have b2 : But wr h' h'' := ⟨by subst hwr; exact hkeep'', hsz''⟩
    have hTw : T ∉ wr := by subst hwr; exact W.apart i T h' hMid
    obtain ⟨v1, bs1, f1, f2, f3⟩ := r1'.get i d1 g1
    obtain ⟨v2, bs2, f4, f5, f6⟩ := r2'.get i d2 g2
    rw [← Array.getElem?_toList, f1] at hx; cases hx
    rw [← Array.getElem?_toList, f4] at hy; cases hy
    have hk'' := hk.step (b1.trans b2) sfwr w
    have s1 : ∀ a ∈ bs1, a ∈ sf := fun a ha => by subst hsf; exact List.mem_append_left _ (.tail _ (f3 a ha))
    have s2 : ∀ a ∈ bs2, a ∈ sf := fun a ha => by subst hsf; exact List.mem_append_right _ (.tail _ (f6 a ha))
    have rr : RdAll Z' h'' (#[x, y] : Array Value).toList [d1, d2] (bs1 ++ (bs2 ++ [])) := .cons (f2.move hk'' s1) (.cons (f5.move hk'' s2) .nil)
    refine assign_parts (s := { s' with heap := h'', toks := tk }) (sf := sf) hh hβ (hTt.at fun o xx => b2.keep T o hTw xx) rr (fun a ha => (List.mem_append.mp ha).elim (s1 a) fun ha => s2 a (by simpa using ha)) fun h₂ βv k2 z2 bv => ?_
    refine kk' h₂ tk βv ⟨fun b o hb xx => k2 b o ((b1.trans b2).keep b o hb xx), Nat.le_trans (b1.trans b2).size z2⟩ ?_ bv
    obtain ⟨q1, q2, ⟨a, b, q3⟩, q4, q5, q6, q7⟩ := st''
    exact ⟨k2 _ _ q1, k2 _ _ q2, ⟨a, b, k2 _ _ q3⟩, q4.at fun o xx => k2 _ o xx, q5.at fun o xx => k2 _ o xx, q6.at fun o xx => k2 _ o xx, q7.at fun o xx => k2 _ o xx⟩
  · intro s' Q' E' st hk hQ'
    rw [pairs_length, ← hl1, ← hl2] at st
    exact wpAny_sized (W.done s' _ _ st fun h' tk he' hsz' => hQ' h' tk ⟨by subst hwr; exact he', hsz'⟩)
  · subst hZ'
    exact h.imp id fun (q : a = s.heap.objs.size + 3) => by subst q; rw [hsz]; exact ⟨Nat.le_add_right _ _, Nat.add_lt_add_left (by decide) _⟩

end
end Mine
end

section
set_option linter.unusedVariables false
namespace Mine
open PySem
variable {Z : Addr → Prop}

section
variable {X : Bx} {wl : WLv} {env : Env} {ρ : Rho} {P : Addr → Prop} {N : Nat} {s : Shared} {L : Option Addr} {Xw : Str → Prop} {Q E : Value → Shared → Prop} {Dw : List PyData → Prop}

/-- a list or a tuple is gone over -/
theorem seq_iter {tgt : Expr} {x : VB} {v : Value} {as : List Addr} (htn : isTup tgt = false → ∃ x p, tgt = .Name x p) (hh : X.A.handled = none) (rv : VR X.C Z s.heap v x.1 as) (fx : Fp x.2 P N as) (h : wlist x.1 (isTup tgt) Dw Xw) (hQ : KIt X Z P N s tgt Dw Q) :
    wpAny X.M X.A (pyIter v) Q E s := by
  obtain ⟨d, fl⟩ := x
  cases d with
  | exc c => exact h.elim
  | dat d =>
    cases d with
    | list ds => cases rv with | list e z r => exact itr_list hh e z r fx h hQ
    | tuple ds =>
      obtain ⟨ht, h⟩ := wif_elim h
      obtain ⟨xn, xp, rfl⟩ := htn (by simpa using ht)
      cases rv with | tuple nz e z r => exact itr_tuple hh nz e z r fx h hQ
    | _ => exact h.elim

theorem intArgs_vals {C : Cx} {h : Heap} {vs : List Value} {xs : List VB} (r : VRs C Z h P N vs xs) : ∀ is, intArgs xs = some is → ∃ ts : List (Int × Tok), vs = ts.map (fun p => Value.int p.1 p.2) ∧ ts.map (·.1) = is := by
  induction r with
  | nil => intro is e; cases e; exact ⟨[], rfl, rfl⟩
  | @cons v x as vs xs a f r ih =>
    intro is e
    obtain ⟨d, fl⟩ := x
    cases d with
    | exc c => cases e
    | dat d =>
      cases d with
      | int i =>
        obtain ⟨is', e', rfl⟩ := Option.map_eq_some_iff.mp e
        obtain ⟨ts, rfl, rfl⟩ := ih is' e'
        cases a with
        | int i t => exact ⟨(i, t) :: ts, rfl, rfl⟩
      | _ => cases e

theorem callOf_eq {e : Expr} {f : Str} {p q : Pos} {args : List Expr} (h : callOf e = some (f, p, args, q)) : e = .Call (.Name f p) args [] q := by
  unfold callOf at h
  split at h
  · cases h; rfl
  · cases h

theorem range_sound {x : Str} {px : Pos} {ts : List (Int × Tok)} {ds : List PyData} (hh : X.A.handled = none) (hr : rangeOf (ts.map (·.1)) = some ds) (hd : Dw ds) (hQ : KIt X Z P N s (.Name x px) Dw Q) :
    wpAny X.M X.A (call (.type "range") (ts.map fun p => Value.int p.1 p.2)) (fun x s₁ => wpAny X.M X.A (pyIter x) Q E s₁) E s := by
  have go : ∀ {a b c : Int} {t u w : Tok} {rg : Addr} {h' : Heap} {tk : Nat}, Keep (fsOf X.A) s.heap h' → IsRange h' rg a b c t u w → 0 < c → small a = true → small b = true → small c = true → Dw (rangeUp a (rangeLen a b c) c) → wpAny X.M X.A (pyIter (.ref rg)) Q E { s with heap := h', toks := tk } := fun k hr hc ha hb hcs hd =>
    itr_range hh hc ha hb hcs hr hd (hQ.after k)
  match ts with
  | [] => cases hr
  | [(b, u)] =>
    simp only [List.map_cons, List.map_nil, rangeOf] at hr
    split at hr
    · rename_i hs; cases hr; exact call_range_1 (go (Keep.push _ _ _) (IsRange.new ..) (by omega) (by decide) hs (by decide) hd)
    · cases hr
  | [(a, t), (b, u)] =>
    simp only [List.map_cons, List.map_nil, rangeOf] at hr
    split at hr
    · rename_i hs; cases hr
      obtain ⟨s1, s2⟩ := Bool.and_eq_true_iff.mp hs
      exact call_range_2 (go (Keep.push _ _ _) (IsRange.new ..) (by omega) s1 s2 (by decide) hd)
    · cases hr
  | [(a, t), (b, u), (c, w)] =>
    simp only [List.map_cons, List.map_nil, rangeOf] at hr
    split at hr
    · rename_i hs; cases hr
      simp only [Bool.and_eq_true, decide_eq_true_eq] at hs
      obtain ⟨⟨⟨s1, s2⟩, s3⟩, s4⟩ := hs
      refine call_range_3 (by omega) (go (Keep.push _ _ _) (IsRange.new ..) s4 s1 s2 s3 hd) (.inl (PyProof.noPylong_small ?_))
      unfold small at s3
      simp only [Bool.and_eq_true, decide_eq_true_eq] at s3
      omega
    · cases hr
  | _ :: _ :: _ :: _ :: _ => cases hr

theorem zip_sound {es : List Expr} {kk : Nat} {pp : Pos} {xs : List VB} {vs : List Value} (hh : X.A.handled = none) (hz : ∀ a, Z a → a < s.heap.objs.size) (r : VRs X.C Z s.heap P N vs xs) (h : wzip xs Dw Xw) (hQ : KIt X Z P N s (.Tuple es kk pp) Dw Q) :
    wpAny X.M X.A (call (.type "zip") vs) (fun x s₁ => wpAny X.M X.A (pyIter x) Q E s₁) E s := by
  unfold wzip at h
  split at h
  · cases r with
    | cons a f r => cases r with
      | cons b g r =>
        cases r
        cases a with
        | list e1 z1 r1 => cases b with
          | list e2 z2 r2 => exact itr_zip hh hz e1 z1 r1 f e2 r2 g h hQ
  · exact h.elim

theorem rev_sound {x : Str} {px : Pos} {xs : List VB} {vs : List Value} (hh : X.A.handled = none) (r : VRs X.C Z s.heap P N vs xs) (h : wrev xs Dw Xw) (hQ : KIt X Z P N s (.Name x px) Dw Q) :
    wpAny X.M X.A (call (.type "reversed") vs) (fun x s₁ => wpAny X.M X.A (pyIter x) Q E s₁) E s := by
  unfold wrev at h
  split at h
  · obtain ⟨v, as, rfl, rv, fv⟩ := r.one
    cases rv with
    | list e z rr => exact itr_rev hh e z rr fv h hQ
  · exact h.elim
def itName : ItK → Str × Bool
  | .range => ("range", false)
  | .rev => ("reversed", false)
  | .zip => ("zip", true)
theorem itKind_eq {b : Bool} {f : Str} {k : ItK} (h : itKind b f = some k) : f = (itName k).1 ∧ b = (itName k).2 := by
  cases b with
  | false =>
    cases h1 : f == "range" with
    | true => simp only [itKind, h1] at h; cases h; exact ⟨eq_of_beq h1, rfl⟩
    | false =>
      cases h2 : f == "reversed" with
      | true => simp only [itKind, h1, h2] at h; cases h; exact ⟨eq_of_beq h2, rfl⟩
      | false => simp only [itKind, h1, h2] at h; cases h
  | true =>
    cases h1 : f == "zip" with
    | true => simp only [itKind, h1] at h; cases h; exact ⟨eq_of_beq h1, rfl⟩
    | false => simp only [itKind, h1] at h; cases h

theorem iter_sound (O : CxOk X.C) (S : Sound X wl) (at_ : At X env Z P ρ s) (hq : X.q = false) (hN : N ≤ s.heap.objs.size) {tgt it : Expr} (htn : isTup tgt = false → ∃ x p, tgt = .Name x p) (htt : isTup tgt = true → ∃ es k p, tgt = .Tuple es k p)
    (h : witer X.C.K wl env.scope.names ρ (isTup tgt) it Dw Xw) (hQ : KIt X Z P N s tgt Dw Q) (hE : KE X env.frame s Xw E) : wpAny X.M X.A (eval it env) (fun x s₁ => wpAny X.M X.A (pyIter x) Q E s₁) E s := by
  have hh := at_.ok.hand hq
  have plain : wl.ev env.scope.names ρ it (fun v => wlist v.1 (isTup tgt) Dw Xw) Xw → wpAny X.M X.A (eval it env) (fun x s₁ => wpAny X.M X.A (pyIter x) Q E s₁) E s := fun h =>
    S.ev hN h at_ (fun x v h' tk as hx k rv fx => seq_iter htn hh rv fx hx (hQ.after k)) hE
  unfold witer at h
  cases hc : callOf it with
  | none => rw [hc] at h; exact plain h
  | some t =>
    obtain ⟨f, p, args, q⟩ := t
    rw [hc] at h
    cases hg : (glob env.scope.names f && !X.C.K.isFn f) with
    | false =>
      simp only [hg] at h
      exact S.ev hN h at_ (fun x v h' tk as hx k rv fx => seq_iter htn hh rv fx (by
        obtain ⟨d, fl⟩ := x
        cases d with
        | exc c => exact hx
        | dat d => cases d <;> first | exact hx | exact False.elim hx) (hQ.after k)) hE
    | true =>
      simp only [hg] at h
      obtain ⟨hg1, hg2⟩ := Bool.and_eq_true_iff.mp hg
      have hf : X.C.K.isFn f = false := by simpa using hg2
      obtain ⟨hns, h1⟩ := wif_elim h
      cases callOf_eq hc
      cases hr : itKind (isTup tgt) f with
      | none => rw [hr] at h1; exact h1.elim
      | some k =>
        rw [hr] at h1
        obtain ⟨hk, c2⟩ := itKind_eq hr
        cases k with
        | range =>
          cases hk
          obtain ⟨x, px, rfl⟩ := htn c2
          refine wpAny_Call_ofName (at_.builtin O hg1 (v := .type "range") (by decide) hf (by decide) (call_args S at_ hN hns h1 (.inr (.inl ⟨_, rfl⟩)) (fun xs vs h' tk hx k r => ?_) hE))
          obtain ⟨is, ds, hi, hr, hd⟩ := hx
          obtain ⟨ts, rfl, rfl⟩ := intArgs_vals r is hi
          exact range_sound hh hr hd (hQ.after k)
        | zip =>
          cases hk
          obtain ⟨es, kk, pp, rfl⟩ := htt c2
          exact wpAny_Call_ofName (at_.builtin O hg1 (v := .type "zip") (by decide) hf (by decide) (call_args S at_ hN hns h1 (.inr (.inl ⟨_, rfl⟩)) (fun xs vs h' tk hx k r => zip_sound hh (fun a ha => ((at_.keep (tk := tk) k).ok.zin a ha).1) r hx (hQ.after k)) hE))
        | rev =>
          cases hk
          obtain ⟨x, px, rfl⟩ := htn c2
          exact wpAny_Call_ofName (at_.builtin O hg1 (v := .type "reversed") (by decide) hf (by decide) (call_args S at_ hN hns h1 (.inr (.inl ⟨_, rfl⟩)) (fun xs vs h' tk hx k r => rev_sound hh r hx (hQ.after k)) hE))

end
end Mine
end

section
set_option linter.unusedVariables false
namespace Mine
open PySem
variable {Z : Addr → Prop}

/-- the cells that a comprehension's block closes over -/
def clo (env : Env) (names : List (Str × NameKind)) : List (Str × Addr) := ((names.filter fun y => y.2 == .free).map fun y => (y.1, (env.cells.lookup y.1).getD 0)).reverse
theorem closure_eq {scope : Scope} {env : Env} (h : ∀ y ∈ scope.names, y.2 = .free → (env.cells.lookup y.1).isSome = true) : closureFor scope env = pure (clo env scope.names) := by
  have key : ∀ (l : List (Str × NameKind)) (acc : List (Str × Addr)), (∀ y ∈ l, y.2 = .free → (env.cells.lookup y.1).isSome = true) →
      (forIn l acc fun (x : Str × NameKind) (r : List (Str × Addr)) => (do
        let mut closure := r
        if x.2 == .free then closure := (x.1, ← cellOf env x.1) :: closure
        pure (ForInStep.yield closure) : Sem (ForInStep (List (Str × Addr))))) = (pure (clo env l ++ acc) : Sem (List (Str × Addr))) := by
    intro l
    induction l with
    | nil => intro acc _; rfl
    | cons y r ih =>
      intro acc hy
      obtain ⟨n, k⟩ := y
      rw [List.forIn_cons]
      have ih' := fun acc => ih acc fun y hm => hy y (.tail _ hm)
      by_cases hk : (k == NameKind.free) = true
      · obtain ⟨c, hc⟩ := Option.isSome_iff_exists.mp (hy (n, k) (.head _) (eq_of_beq hk))
        have : cellOf env n = pure c := by unfold cellOf; rw [show env.cells.lookup n = some c from hc]
        simp only [hk, if_true, this, pure_bind]
        rw [ih' _]
        congr 1
        simp only [clo, List.filter_cons, hk, if_true, List.map_cons, List.reverse_cons, List.append_assoc, List.singleton_append]
        simp only at hc
        rw [hc]
        rfl
      · have hk' : (k == NameKind.free) = false := by simpa using hk
        simp only [hk', Bool.false_eq_true, if_false, pure_bind]
        rw [ih' _]
        simp only [clo, List.filter_cons, hk', Bool.false_eq_true, if_false]
  have := key scope.names [] h
  rw [List.append_nil] at this
  unfold closureFor
  refine Eq.trans ?_ (congrArg (· >>= pure) this |>.trans (by simp))
  rfl
theorem clo_some {env : Env} {names : List (Str × NameKind)} {x : Str} {c : Addr} (h : (clo env names).lookup x = some c) : (x, NameKind.free) ∈ names ∧ c = (env.cells.lookup x).getD 0 := by
  have m := PySem.mem_of_lookup h
  unfold clo at m
  rw [List.mem_reverse, List.mem_map] at m
  obtain ⟨⟨n, k⟩, m, e⟩ := m
  obtain ⟨m1, m2⟩ := List.mem_filter.mp m
  cases e
  cases (eq_of_beq m2 : k = .free)
  exact ⟨m1, rfl⟩
theorem lookup_of_mem {α : Type} : ∀ {l : List (Str × α)} {x : Str} {c : α}, (x, c) ∈ l → (l.lookup x).isSome = true
  | (n, k) :: r, x, c, h => by
    rw [List.lookup_cons]
    cases hb : x == n with
    | true => rfl
    | false => exact (List.mem_cons.mp h).elim (fun h => by cases h; simp at hb) lookup_of_mem
theorem clo_free {env : Env} {names : List (Str × NameKind)} {x : Str} (h : (x, NameKind.free) ∈ names) : (clo env names).lookup x = some ((env.cells.lookup x).getD 0) := by
  have m : (x, (env.cells.lookup x).getD 0) ∈ clo env names := by
    unfold clo
    rw [List.mem_reverse, List.mem_map]
    exact ⟨_, List.mem_filter.mpr ⟨h, rfl⟩, rfl⟩
  obtain ⟨c, hc⟩ := Option.isSome_iff_exists.mp (lookup_of_mem m)
  rw [hc, (clo_some hc).2]
theorem apart_lookup : ∀ {l : List (Str × Addr)} {a b : Str} {c : Addr}, (l.Pairwise fun x y => x.2 ≠ y.2) → (a, c) ∈ l → (b, c) ∈ l → a = b
  | (n, k) :: r, a, b, c, hp, ha, hb => by
    obtain ⟨h1, h2⟩ := List.pairwise_cons.mp hp
    rcases List.mem_cons.mp ha with ha | ha <;> rcases List.mem_cons.mp hb with hb | hb
    · cases ha; cases hb; rfl
    · cases ha; exact absurd rfl (h1 (b, k) hb)
    · cases hb; exact absurd rfl (h1 (a, k) ha)
    · exact apart_lookup h2 ha hb
theorem clo_apart {env : Env} {names : List (Str × NameKind)} (hn : (names.map (·.1)).Nodup) (hs : ∀ y ∈ names, y.2 = .free → (env.cells.lookup y.1).isSome = true) (hp : env.cells.Pairwise fun x y => x.2 ≠ y.2) :
    (clo env names).Pairwise fun x y => x.2 ≠ y.2 := by
  unfold clo
  rw [List.pairwise_reverse, List.pairwise_map]
  have h1 : names.Pairwise fun a b => a.1 ≠ b.1 := by rw [List.Nodup, List.pairwise_map] at hn; exact hn
  have h2 := h1.filter fun y => y.2 == .free
  refine List.Pairwise.imp_of_mem (fun {a b} ma mb hab e => ?_) h2
  obtain ⟨ma1, ma2⟩ := List.mem_filter.mp ma
  obtain ⟨mb1, mb2⟩ := List.mem_filter.mp mb
  obtain ⟨c, hc⟩ := Option.isSome_iff_exists.mp (hs a ma1 (eq_of_beq ma2))
  obtain ⟨c', hc'⟩ := Option.isSome_iff_exists.mp (hs b mb1 (eq_of_beq mb2))
  rw [hc, hc'] at e
  cases e
  exact hab (apart_lookup hp (PySem.mem_of_lookup hc) (PySem.mem_of_lookup hc'))
theorem compScope_iff {sc names : Sc} {x : Str} (h : compScope sc names x = true) : names.lookup x = some .local ∧ (∀ y ∈ names, y.2 ≠ .cell) ∧ (∀ y ∈ names, y.2 = .local → names.lookup y.1 = some .local) ∧
    (∀ y ∈ names, y.2 = .free → (sc.lookup y.1 = some .cell ∨ sc.lookup y.1 = some .free) ∧ names.lookup y.1 = some .free) ∧ (names.map (·.1)).Nodup := by
  unfold compScope at h
  simp only [Bool.and_eq_true, decide_eq_true_eq, List.all_eq_true, Bool.or_eq_true, beq_iff_eq, bne_iff_ne, ne_eq] at h
  obtain ⟨⟨⟨⟨h1, h2⟩, h3⟩, h4⟩, h5⟩ := h
  exact ⟨h1, h2, fun y hy e => (h3 y hy).resolve_left fun q => q e, fun y hy e => (h4 y hy).resolve_left fun q => q e, h5⟩
theorem Okk.bar {X : Bx} {fr : Option Addr} {Z' : Addr → Prop} {h₀ h : Heap} (x : Okk X fr Z h) (st : X.C.hb.StaysIn h₀) (hz : ∀ a, Z' a → Z a ∨ (h₀.objs.size ≤ a ∧ a < h.objs.size)) : Okk X fr Z' h :=
  ⟨x.fr, x.fin, x.stays, x.hand, x.depth, x.units, fun a ha => (hz a ha).elim (x.zin a) fun ⟨l1, l2⟩ => ⟨l2, by
    cases e : X.C.hb.get? a with
    | none => rfl
    | some o => exact absurd (Heap.lt_size (st a o e)) (Nat.not_lt.mpr l1)⟩⟩
theorem compNames_eq {env : Env} (hk : env.scope.kind = .function) (scope : Scope) : compNames env.scope.names scope.names = (relabel scope env).names := by
  unfold compNames relabel
  refine List.map_congr_left fun y _ => ?_
  obtain ⟨n, k⟩ := y
  simp only [hk, beq_self_eq_true, Bool.and_true]
  rfl
theorem relabel_lookup {sc : Sc} : ∀ (names : Sc) (y : Str), (compNames sc names).lookup y = (names.lookup y).map fun k => if k == NameKind.free && sc.lookup y == some NameKind.cell then NameKind.cell else k
  | [], y => rfl
  | (n, k) :: r, y => by
    have ih := relabel_lookup (sc := sc) r y
    unfold compNames at ih ⊢
    rw [List.map_cons, List.lookup_cons]
    cases hy : y == n with
    | true =>
      have := eq_of_beq hy; subst this
      by_cases hc : (k == NameKind.free && sc.lookup y == some NameKind.cell) = true
      · rw [if_pos hc, List.lookup_cons, hy]; exact (congrArg some (if_pos hc).symm)
      · rw [if_neg hc, List.lookup_cons, hy]; exact (congrArg some (if_neg hc).symm)
    | false =>
      by_cases hc : (k == NameKind.free && sc.lookup n == some NameKind.cell) = true
      · rw [if_pos hc, List.lookup_cons, hy]; exact ih
      · rw [if_neg hc, List.lookup_cons, hy]; exact ih
theorem lookup_filter {α : Type} {f : Str → Bool} {x : Str} : ∀ (l : List (Str × α)), (l.filter fun p => f p.1).lookup x = if f x then l.lookup x else none
  | [] => by simp
  | (y, v) :: r => by
    have ih := lookup_filter (f := f) (x := x) r
    rw [List.filter_cons]
    cases hxy : x == y with
    | true =>
      have := eq_of_beq hxy; subst this
      by_cases hf : f x = true
      · rw [if_pos hf, List.lookup_cons, hxy, if_pos hf, List.lookup_cons, hxy]
      · rw [if_neg hf, ih, if_neg hf, if_neg hf]
    | false =>
      by_cases hf : f y = true
      · rw [if_pos hf, List.lookup_cons, hxy, ih, List.lookup_cons, hxy]
      · rw [if_neg hf, ih, List.lookup_cons, hxy]

section
variable {X : Bx} {wl : WLv} {env : Env} {ρ : Rho} {P : Addr → Prop} {N : Nat} {s : Shared} {L : Option Addr}

theorem valueAt_cell {m cm : Str → Option Value} {y : Str} {u : Value} (hok : env.scope.names.lookup y = some .cell ∨ env.scope.names.lookup y = some .free) (h1 : valueAt env m cm y = some u) : cm y = some u := by
  unfold valueAt at h1
  rcases hok with hk | hk <;> rw [show env.kindOf y = _ from hk] at h1 <;> simp only at h1 <;> split at h1 <;> first | exact h1 | cases h1
/-- what stands within a comprehension's block -/
theorem comp_at {scope : Scope} {x : Str} {Z' P₁ : Addr → Prop} {Ca : Addr} {m' : Str → Option Value} {h : Heap} {tk : Nat} {d : PyData} {v : Value} {bs : List Addr} (at_ : At X env Z P ρ s) (hcs : compScope env.scope.names scope.names x = true) (hkind : scope.kind = .function)
    (k : Keep (fsOf X.A) s.heap h) (hns : h.Ns Ca m') (hm : m' x = some v) (rv : Rd Z' h v d bs) (fv : ∀ a ∈ bs, P₁ a) (hPP : ∀ a, a < s.heap.objs.size → P a → P₁ a) (hz : ∀ a, Z' a → Z a ∨ (s.heap.objs.size ≤ a ∧ a < h.objs.size)) :
    At X (compEnvC scope (clo env scope.names) Ca env) Z' P₁ ([(x, .dat d)] ++ closing scope.names ρ) { s with heap := h, toks := tk } := by
  obtain ⟨c1, c2, c3, c4, c5⟩ := compScope_iff hcs
  have hsome : ∀ y ∈ scope.names, y.2 = .free → (env.cells.lookup y.1).isSome = true := fun y hy e => at_.eok.cells y.1 ((c4 y hy e).1)
  have kof : ∀ y, Env.kindOf (compEnvC scope (clo env scope.names) Ca env) y = (scope.names.lookup y).map fun k => if k == NameKind.free && env.scope.names.lookup y == some NameKind.cell then NameKind.cell else k := fun y => by
    show (relabel scope env).names.lookup y = _
    rw [← compNames_eq at_.eok.kind, relabel_lookup]
  refine ⟨(at_.ok.keep k).bar at_.ok.stays hz, ⟨fun y hy => ?_, hkind, at_.eok.globals, at_.eok.builtins⟩, ?_⟩
  · show ((clo env scope.names).lookup y).isSome = true
    rw [kof y] at hy
    cases hl : scope.names.lookup y with
    | none => rw [hl] at hy; simp at hy
    | some k =>
      have mem := PySem.mem_of_lookup hl
      have : k = .free := by
        rw [hl] at hy
        simp only [Option.map_some, Option.some.injEq] at hy
        by_cases hc : (k == NameKind.free && env.scope.names.lookup y == some NameKind.cell) = true
        · exact eq_of_beq (Bool.and_eq_true_iff.mp hc).1
        · rw [if_neg hc] at hy
          exact hy.elim (fun e => absurd e (c2 _ mem)) id
      subst this
      rw [clo_free mem]; rfl
  · obtain ⟨m, cm, hf, hv⟩ := at_.vars
    refine ⟨m', cm, ⟨hns, fun y c e => ?_, clo_apart c5 hsome hf.apart⟩, fun y dd e => ?_⟩
    · obtain ⟨mem, rfl⟩ := clo_some e
      obtain ⟨c', hc'⟩ := Option.isSome_iff_exists.mp (hsome _ mem rfl)
      rw [hc']
      exact k.cell (hf.cell y c' hc')
    · rw [List.singleton_append, List.lookup_cons] at e
      cases hy : y == x with
      | true =>
        have := eq_of_beq hy; subst this
        rw [hy] at e; cases e
        refine ⟨v, bs, ?_, rv, fv⟩
        unfold valueAt
        rw [kof y, c1]
        exact hm
      | false =>
        rw [hy] at e
        replace e : (ρ.filter fun p => scope.names.lookup p.1 == some NameKind.free).lookup y = some dd := e
        rw [lookup_filter (f := fun z => scope.names.lookup z == some NameKind.free)] at e
        split at e
        · rename_i hlk
          have hlk : scope.names.lookup y = some .free := eq_of_beq hlk
          have memf := PySem.mem_of_lookup hlk
          obtain ⟨u, as, h1, h2, h3⟩ := hv y dd e
          refine ⟨u, as, ?_, ?_, fun a ha => hPP a (h2.lt a ha) (h3 a ha)⟩
          · have hcell := valueAt_cell (c4 _ memf rfl).1 h1
            unfold valueAt
            have hs : (List.lookup y (compEnvC scope (clo env scope.names) Ca env).cells).isSome = true := by
              show ((clo env scope.names).lookup y).isSome = true
              rw [clo_free memf]; rfl
            rw [kof y, hlk]
            simp only [Option.map_some]
            by_cases hc : (NameKind.free == NameKind.free && env.scope.names.lookup y == some NameKind.cell) = true
            · rw [if_pos hc]; simp only [hs, if_true]; exact hcell
            · rw [if_neg hc]; simp only [hs, if_true]; exact hcell
          · cases dd with
            | dat d' => exact ((Rd.move (bar_moves fun a la za => (hz a za).elim id fun ⟨l, _⟩ => absurd la (Nat.not_lt.mpr l)) h2 fun _ _ => trivial)).keep at_.ok.fin k
            | exc c => exact VR.keep at_.ok.fin k h2
        · cases e

end
end Mine
end

section
set_option linter.unusedVariables false
namespace Mine
open PySem
variable {Z : Addr → Prop}

section
variable {X : Bx} {wl : WLv} {env : Env} {ρ : Rho} {P : Addr → Prop} {N : Nat} {s : Shared} {L : Option Addr} {Qw : VB → Prop} {Bw : Bool → Prop} {Xw : Str → Prop} {Q E : Value → Shared → Prop}

theorem tests_sound (S : Sound X wl) {ifs : List Expr} (at_ : At X env Z P ρ s) (hb : wtests wl env.scope.names ρ ifs Bw fun _ => False) {QB : Bool → Shared → Prop} (hQ : KB X s Bw QB) :
    wpAny X.M X.A (forIn ifs true fun c r => if r = true then do let ok ← isTrue c env (eval c env); pure (ForInStep.yield ok) else pure (ForInStep.yield r)) QB E s := by
  match ifs with
  | [] => exact wpAny_pure (hQ.same (tk := s.toks) hb)
  | [c] =>
    rw [List.forIn_cons]
    simp only [if_true]
    exact wpAny_bind (wpAny_bind (S.cond (Xw := fun _ => False) hb at_ (fun b h' tk hb k => wpAny_pure (wpAny_pure (hQ b h' tk hb k))) fun _ _ _ _ z => z.elim))
  | _ :: _ :: _ => exact hb.elim

theorem datsOf_snoc {a b : List VB} {d : PyData} {f : Bool} {dd : List PyData} : ∀ {d1 : List PyData}, datsOf a = some d1 → datsOf (a ++ [(.dat d, f)]) = some (d1 ++ [d]) := by
  induction a with
  | nil => intro d1 h; cases h; rfl
  | cons x r ih =>
    intro d1 h
    obtain ⟨v, f'⟩ := x
    cases v with
    | dat e =>
      obtain ⟨r', hr, rfl⟩ := Option.map_eq_some_iff.mp h
      simp only [List.cons_append, datsOf, ih hr, Option.map_some]
    | exc c => cases h
theorem datsOf_no : ∀ {a b : List VB} {c : Str} {f : Bool} {dd : List PyData}, datsOf (a ++ (.exc c, f) :: b) ≠ some dd
  | [], b, c, f, dd, h => by cases h
  | (.dat d, g) :: a, b, c, f, dd, h => by obtain ⟨r', hr, rfl⟩ := Option.map_eq_some_iff.mp h; exact datsOf_no hr
  | (.exc d, g) :: a, b, c, f, dd, h => by cases h

theorem HK.keepB {hs h h' : Heap} {sf fs : List Addr} {ws : Addr → Prop} (k : HK Z hs sf h) (F : FramesIn fs h) (kb : KeepB fs ws h h') (h1 : ∀ a ∈ sf, ¬ ws a) (h2 : ∀ b, ws b → ¬ Z b → ∀ vs n, hs.get? b ≠ some (tupObj vs n)) : HK Z hs sf h' :=
  ⟨fun a vs n nz e => let e' := (k.tup a vs n nz e).2; ⟨nz, kb.other a _ e' (F.not_seq e' rfl) fun m => h2 a m nz vs n e⟩, fun a ha vs n e => let e' := k.lst a ha vs n e; kb.other a _ e' (F.not_seq e' rfl) (h1 a ha), fun a ha o n e hd => let ⟨_, e'⟩ := k.dct a ha o n e hd; let ⟨sl2, e2⟩ := kb.slots a _ e' (h1 a ha); ⟨sl2, e2⟩⟩
theorem wpAny_join {M : Model} {A : Around} {α β : Type} {a : α} {t : α → Sem β} {Q : β → Shared → Prop} {E : Value → Shared → Prop} {s : Shared} (h : wpAny M A (pure a : Sem α) (fun a s' => wpAny M A (t a) Q E s') E s) : wpAny M A (t a) Q E s := fun Γ p i => h Γ p i Γ p i

/-- a comprehension's loop: what stands ahead of the turn i -/
inductive CJ (X : Bx) (Z P₁ : Addr → Prop) (s : Shared) (h₁ h₂ : Heap) (D Ca : Addr) (sf : List Addr) (W : Addr → Prop) (St : Nat → Heap → Prop) (C : List PyData → List VB → Prop) (ds : List PyData) (all : List VB) (k : Nat) (s' : Shared) : Prop
  | mk (h : Heap) (tk : Nat) (m' : Str → Option Value) (ys : Array Value) (nn i : Nat) (done rest : List VB) (dd0 : List PyData) (as : List Addr) (e : s' = { s with heap := h, toks := tk }) (st : St i h) (hk : HK Z h₂ sf h) (kb : KeepB (fsOf X.A) W h₁ h) (hl : h.get? D = some (lstObj ys nn)) (hns : h.Ns Ca m')
    (hr : C (ds.drop i) rest) (hdr : all = done ++ rest) (hd0 : datsOf done = some dd0) (rd : RdAll Z h ys.toList dd0 as) (fp : ∀ a ∈ as, ((all.all (·.2)) = false ∧ P₁ a) ∨ h₁.objs.size ≤ a) (hys : ys.size ≤ i) (hi : i ≤ ds.length) (hk' : k = ds.length + 1 - i)

/-- what is left behind a comprehension -/
def KC (X : Bx) (Z P : Addr → Prop) (N : Nat) (s : Shared) (all : List VB) (dd : List PyData) (RR : Value → Addr → Result → Shared → Prop) : Prop :=
  ∀ D Ca h' tk m' as ys nn, s.heap.objs.size ≤ D → s.heap.objs.size ≤ Ca → D ≠ Ca → h'.Ns Ca m' → h'.get? D = some (lstObj ys nn) → ys.size ≤ sizeLine → RdAll Z h' ys.toList dd as →
      Fp (all.all (·.2)) P N as → (∀ a ∈ as, a ≠ D ∧ a ≠ Ca) → Keep (fsOf X.A) s.heap h' → RR (.ref D) Ca (.ok .next) { s with heap := h', toks := tk }

/-- a comprehension's block, from the iterator on -/
theorem comp_core (S : Sound X wl) (at_ : At X env Z P ρ s) (hN : N ≤ s.heap.objs.size) {elt it : Expr} {x : Str} {px : Pos} {ifs : List Expr} {scope : Scope} {pos : Pos} (hcs : compScope env.scope.names scope.names x = true) (hkind : scope.kind = .function)
    {ds : List PyData} {all : List VB} {dd : List PyData} {h₂ : Heap} {tk₂ : Nat} {I : Addr} {Z' : Addr → Prop} {sf wr : List Addr} {St : Nat → Heap → Prop} (k₂ : Keep (fsOf X.A) s.heap h₂) (itr : Itr X Z' I (.Name x px) ds sf h₂ wr St) (zz : ∀ a, Z a → Z' a) (zz' : ∀ a, Z' a → Z a ∨ (s.heap.objs.size ≤ a ∧ a < h₂.objs.size))
    (wrn : ∀ b ∈ wr, s.heap.objs.size ≤ b ∧ b < h₂.objs.size) (sfP : ∀ a ∈ sf, (P a ∨ N ≤ a) ∧ a < h₂.objs.size) (dsz : ds.length ≤ sizeLine)
    (hall : WComp wl (compNames env.scope.names scope.names) (closing scope.names ρ) (.Name x px) ifs elt ds all) (hdd : datsOf all = some dd) {RR : Value → Addr → Result → Shared → Prop} (hRR : KC X Z P N s all dd RR) :
    wpAny X.M X.A (newList []) (fun acc s₃ => wpAny X.M X.A (newFunctionEnv scope env.globals (clo env scope.names) [] env.qual none .none (some env)) (fun cenv s₄ =>
      codeAny X.M X.A (.compStart (.ListComp elt [⟨.Name x px, it, ifs, 0⟩] scope pos) 0 (.ref I) acc { cenv with scope := relabel scope env }) (RR acc cenv.locals) s₄) E s₃) E { s with heap := h₂, toks := tk₂ } := by
  obtain ⟨c1, c2, c3, c4, c5⟩ := compScope_iff hcs
  refine wpAny_newObj_type (wpAny_sized (wpAny_newFunctionEnv (fun y hy => c2 y hy) (by intro y hy; simp at hy) (fun h₁ hns₁ hsb₁ hsz₁ => ?_) hkind))
  dsimp only at hns₁ hsb₁ hsz₁ ⊢
  generalize hH2 : h₂.push { cls := .type "list", dict := none, data := .seq ([] : List Value).toArray } = H2 at hns₁ hsb₁ hsz₁ ⊢
  have hC : @Eq Nat H2.objs.size (h₂.objs.size + 1) := by rw [← hH2, Heap.size_push]
  have h1sz : @Eq Nat h₁.objs.size (h₂.objs.size + 2) := by rw [hsb₁.1, Heap.size_push, hC]
  have hs2 : @LE.le Nat _ s.heap.objs.size h₂.objs.size := k₂.size
  generalize hCa : H2.objs.size = Ca at *
  generalize hD : h₂.objs.size = D at *
  have hDC : D ≠ Ca := by rw [hC]; exact Nat.ne_of_lt (Nat.lt_succ_self _)
  have below : ∀ b o, h₂.get? b = some o → b ≠ Ca ∧ b ≠ D := fun b o e => by
    have := Heap.lt_size e
    rw [hD] at this
    exact ⟨by rw [hC]; exact Nat.ne_of_lt (Nat.lt_succ_of_lt this), Nat.ne_of_lt this⟩
  have old : h₂.StaysIn h₁ := fun b o e => hsb₁.extBut b o (below b o e).1 (Heap.get?_push_of_some _ (hH2 ▸ Heap.get?_push_of_some _ e))
  have hacc : h₁.get? D = some (lstObj #[] 0) := hsb₁.extBut _ _ hDC (Heap.get?_push_of_some _ (hH2 ▸ hD ▸ Heap.get?_push_size _ rfl))
  generalize hW : (fun b => b = D ∨ b = Ca ∨ b ∈ wr) = W
  have Wd : ∀ {b}, W b → b = D ∨ b = Ca ∨ b ∈ wr := fun {b} h => by subst hW; exact h
  have W1 : W D := by subst hW; exact .inl rfl
  have W2 : W Ca := by subst hW; exact .inr (.inl rfl)
  have W3 : ∀ {b}, b ∈ wr → W b := fun h => by subst hW; exact .inr (.inr h)
  have wW : ∀ b, W b → @LE.le Nat _ s.heap.objs.size b := fun b hb => by
    rcases Wd hb with rfl | rfl | hb
    · exact hs2
    · rw [hC]; exact Nat.le_succ_of_le hs2
    · exact (wrn b hb).1
  have wlt : ∀ b, W b → @LT.lt Nat _ b h₁.objs.size := fun b hb => by
    rw [h1sz]
    rcases Wd hb with q | q | hb
    · have q : @Eq Nat b D := q; omega
    · have q : @Eq Nat b Ca := q; omega
    · have := (wrn b hb).2; have this : @LT.lt Nat _ b D := this; omega
  have k01 : Keep (fsOf X.A) s.heap h₁ := k₂.trans (size_le_of_keeps old (by rw [h1sz, hD]; exact Nat.le_add_right _ _) _)
  have kp : ∀ {h}, KeepB (fsOf X.A) W h₁ h → Keep (fsOf X.A) s.heap h := fun kb => ((KeepB.ofKeep k01).trans kb).toKeep fun b lb hb => absurd lb (Nat.not_lt.mpr (wW b hb))
  have ltW : ∀ a, @LT.lt Nat _ a D → a ∉ wr → ¬ W a := fun a la nw hb => by
    rcases Wd hb with q | q | hb
    · exact Nat.lt_irrefl _ (q ▸ la)
    · have q : @Eq Nat a Ca := q; omega
    · exact nw hb
  have sfW : ∀ a ∈ sf, ¬ W a := fun a ha => ltW a (sfP a ha).2 (itr.sfwr a ha)
  have tW₂ : ∀ b, W b → ¬ Z' b → ∀ vs m, h₂.get? b ≠ some (tupObj vs m) := fun b hb nz vs m e => by
    rcases Wd hb with q | q | hb
    · exact (below _ _ e).2 q
    · exact (below _ _ e).1 q
    · exact (itr.wcls 0 _ itr.start).notup hb nz e
  have tW : ∀ {i h ys nn m'}, St i h → h.get? D = some (lstObj ys nn) → h.Ns Ca m' → ∀ b, W b → ¬ Z' b → ∀ vs m, h.get? b ≠ some (tupObj vs m) := fun st hl hns b hb nz vs m e => by
    rcases Wd hb with rfl | rfl | hb
    · rw [hl] at e; have := congrArg (fun o : Option Obj => o.map (·.cls)) e; simp at this
    · obtain ⟨o, es, ep, ho, hd, _⟩ := hns; rw [ho] at e; cases e; cases hd
    · exact (itr.wcls _ _ st).notup hb nz e
  have hCw : Ca ∉ wr := fun m => by have := (wrn _ m).2; have this : @LT.lt Nat _ Ca D := this; omega
  have hDw : D ∉ wr := fun m => Nat.lt_irrefl _ (wrn _ m).2
  have fsLt : ∀ b ∈ fsOf X.A, b < s.heap.objs.size := fun b hb => by obtain ⟨o, _, _, ho, _⟩ := at_.ok.fin b hb; exact Heap.lt_size ho
  have fsw : ∀ b ∈ wr, b ∉ fsOf X.A := fun b hb m => absurd (fsLt b m) (Nat.not_lt.mpr (wrn b hb).1)
  generalize hP₁ : (fun a => (P a ∨ N ≤ a) ∧ a < D ∧ a ∉ wr) = P₁
  have P₁W : ∀ a, P₁ a → ¬ W a := fun a ha => by subst hP₁; exact ltW a ha.2.1 ha.2.2
  have fpW : ∀ {fl : Bool} {as : List Addr}, (∀ a ∈ as, (fl = false ∧ P₁ a) ∨ h₁.objs.size ≤ a) → ∀ a ∈ as, ¬ W a := fun fp a ha => (fp a ha).elim (fun z => P₁W a z.2) fun z w => absurd (wlt a w) (Nat.not_lt.mpr z)
  have start : KeepB (fsOf X.A) W h₂ h₁ := KeepB.exact (by rw [h1sz, hD]; exact Nat.le_add_right _ _) fun b o _ e => old b o e
  have hk₁ : HK Z' h₂ sf h₁ := (HK.refl h₂ sf).keepB (at_.ok.fin.keep k₂) start sfW tW₂
  have st₁ : St 0 h₁ := itr.frame _ _ _ itr.start (fun b _ o e => old b o e) hk₁
  have hsc : (compEnvC scope (clo env scope.names) Ca env).scope.names = compNames env.scope.names scope.names := (compNames_eq at_.eok.kind scope).symm
  have loop : ∀ tk, codeAny X.M X.A (.compLoop (.ListComp elt [⟨.Name x px, it, ifs, 0⟩] scope pos) 0 (.ref I) (.ref D) (compEnvC scope (clo env scope.names) Ca env)) (RR (.ref D) Ca) { s with heap := h₁, toks := tk } := fun tk => by
    refine codeAny_compLoop_tests (CJ X Z' P₁ s h₁ h₂ D Ca sf W St (WComp wl (compNames env.scope.names scope.names) (closing scope.names ρ) (.Name x px) ifs elt) ds all) ?_ (ds.length + 1) ⟨h₁, tk, _, #[], 0, 0, [], all, [], [], rfl, st₁, hk₁, KeepB.refl, hacc, hns₁, by rw [List.drop_zero]; exact hall, rfl, rfl, .nil, (fun _ m => nomatch m), Nat.le_refl _, Nat.zero_le _, rfl⟩
    rintro k s' ⟨h, tk', m', ys, nn, i, done, rest, dd0, as, rfl, st, hk, kb, hl, hns, hrest, hdr, hd0, rd, fp, hys, hi, rfl⟩
    have Fh : FramesIn (fsOf X.A) h := at_.ok.fin.keep (kp kb)
    by_cases hlt : i < ds.length
    · rw [List.drop_eq_getElem_cons hlt] at hrest
      obtain ⟨β, hβ, hcase⟩ := hrest
      cases hβ
      refine itr.turn i _ ds[i] _ _ _ (List.getElem?_eq_getElem hlt) rfl st hk fun v h₃ tk₃ b₃ cont => ?_
      refine wpAny_join (a := ()) (t := fun _ => assign (.Name x px) (compEnvC scope (clo env scope.names) Ca env) v) (cont _ _ _ fun h₄ tk₄ βv b₄ st₄ bv => ?_)
      cases bv with
      | @cons _ u _ bs _ _ rv fv t =>
      cases t
      show wpAny X.M X.A (storeName (compEnvC scope (clo env scope.names) Ca env) x u) _ _ _
      have kb₄ : KeepB (fsOf X.A) W h h₄ := KeepB.exact b₄.size fun b o nw e => b₄.keep b o (fun m => nw (W3 m)) e
      have hl₄ : h₄.get? D = some (lstObj ys nn) := b₄.keep _ _ hDw hl
      have ns₄ : h₄.Ns Ca m' := let ⟨o, es, ep, ho, r⟩ := hns; ⟨o, es, ep, b₄.keep _ _ hCw ho, r⟩
      refine wpAny_sized (wpAny_storeName_local (lookup_relabel_local c1) ns₄ (fun h₅ hns₅ hsb₅ hsz₅ => ?_) (by simp [compEnvC, relabel, hkind]))
      replace hns₅ : h₅.Ns Ca _ := hns₅
      have kb₅ : KeepB (fsOf X.A) W h₄ h₅ := KeepB.exact hsz₅ fun b o nw e => hsb₅.extBut b o (fun q => nw (q ▸ W2)) e
      have kb' := kb.trans kb₄
      have kbh₅ : KeepB (fsOf X.A) W h₁ h₅ := kb'.trans kb₅
      have F₄ : FramesIn (fsOf X.A) h₄ := at_.ok.fin.keep (kp kb')
      have F₅ : FramesIn (fsOf X.A) h₅ := at_.ok.fin.keep (kp kbh₅)
      have hk₅ : HK Z' h₂ sf h₅ := (hk.keepB Fh kb₄ sfW tW₂).keepB F₄ kb₅ sfW tW₂
      have tW₄ := tW st₄ hl₄ ns₄
      have hl₅ : h₅.get? D = some (lstObj ys nn) := hsb₅.extBut _ _ hDC hl₄
      have st₅ : St (i + 1) h₅ := itr.frame _ _ _ st₄ (fun b hb o e => hsb₅.extBut b o (fun (q : b = Ca) => hCw (q ▸ hb)) e) hk₅
      have rv₅ : Rd Z' h₅ u ds[i] bs := rv.move (kb₅.moves F₄ tW₄) fun a ha => sfW a (fv a ha)
      have rd₅ : RdAll Z' h₅ ys.toList dd0 as := (rd.move (kb₄.moves Fh (tW st hl hns)) (fpW fp)).move (kb₅.moves F₄ tW₄) (fpW fp)
      have at₅ : At X (compEnvC scope (clo env scope.names) Ca env) Z' P₁ ([(x, .dat ds[i])] ++ closing scope.names ρ) { s with heap := h₅, toks := tk₄ + 1 } :=
        comp_at at_ hcs hkind (kp kbh₅) hns₅ (by simp) rv₅ (fun a ha => by subst hP₁; exact ⟨(sfP a (fv a ha)).1, (sfP a (fv a ha)).2, itr.sfwr a (fv a ha)⟩)
          (fun a la ha => by subst hP₁; exact ⟨.inl ha, Nat.lt_of_lt_of_le la hs2, fun m => absurd la (Nat.not_lt.mpr (wrn a m).1)⟩)
          (fun a ha => (zz' a ha).imp id fun z => ⟨z.1, Nat.lt_of_lt_of_le z.2 (Nat.le_trans (by rw [h1sz]; exact Nat.le_add_right _ _) kbh₅.size)⟩)
      have stf : ∀ {h₆}, Keep (fsOf X.A) h₅ h₆ → HK Z' h₂ sf h₆ ∧ St (i + 1) h₆ := fun {h₆} k => have a := hk₅.keepB F₅ (KeepB.ofKeep k) sfW tW₂; ⟨a, itr.frame _ _ _ st₅ (fun b hb o e => k.other b o e (fsw b hb)) a⟩
      refine tests_sound S at₅ (by rw [hsc]; exact hcase) fun ok h₆ tk₆ hok k₆ => ?_
      cases ok with
      | false =>
        simp only [Bool.false_eq_true, if_false]
        obtain ⟨q1, q2⟩ := stf k₆
        exact ⟨ds.length + 1 - (i + 1), by omega, h₆, tk₆, _, ys, nn, i + 1, done, rest, dd0, as, rfl, q2, q1, kbh₅.trans (.ofKeep k₆), k₆.other _ _ hl₅ (F₅.not_seq hl₅ rfl), k₆.ns hns₅, hok.2 rfl, hdr, hd0, rd₅.keep F₅ k₆, fp, by omega, by omega, rfl⟩
      | true =>
        simp only [if_true]
        refine S.ev (N := h₁.objs.size) (Xw := fun _ => False) (Nat.le_trans kbh₅.size k₆.size) (by rw [hsc]; exact hok.1 rfl) (at₅.keep (tk := tk₆) k₆) (fun y w h₇ tk₇ bs' hy k₇ rv₇ fv₇ => ?_) fun _ _ _ _ z => z.elim
        obtain ⟨vs, hr, rfl⟩ := hy
        have hkd : Keep (fsOf X.A) h₅ h₇ := k₆.trans k₇
        have F₇ := F₅.keep hkd
        have hl₇ : h₇.get? D = some (lstObj ys nn) := hkd.other _ _ hl₅ (F₅.not_seq hl₅ rfl)
        obtain ⟨hk₇, st₇⟩ := stf hkd
        have hns₇ := hkd.ns hns₅
        obtain ⟨yv, yf⟩ := y
        cases yv with
        | exc c => rw [hdr] at hdd; exact absurd hdd datsOf_no
        | dat yd =>
        have fy : ∀ a ∈ bs', (all.all (·.2) = false ∧ P₁ a) ∨ h₁.objs.size ≤ a := fun a ha => (fv₇ a ha).imp (fun z => ⟨by rw [hdr, List.all_append, List.all_cons, show yf = false from z.1]; simp, z.2⟩) id
        refine wpAny_sized (wpAny_list_append_plain (items := ys) ⟨nn, hl₇⟩ (fun h₈ hpl₈ hsb₈ hsz₈ => ?_) (Nat.le_trans hys (Nat.le_trans hi dsz)))
        have kb₈ : KeepB (fsOf X.A) W h₇ h₈ := KeepB.exact hsz₈ fun b o nw e => hsb₈.extBut b o (fun q => nw (q ▸ W1)) e
        have hk₈ : HK Z' h₂ sf h₈ := hk₇.keepB F₇ kb₈ sfW tW₂
        obtain ⟨n₈, hl₈⟩ := hpl₈
        have mv := kb₈.moves F₇ (tW st₇ hl₇ hns₇)
        refine ⟨ds.length + 1 - (i + 1), by omega, h₈, tk₇, _, ys.push w, n₈, i + 1, done ++ [(.dat yd, yf)], vs, dd0 ++ [yd], as ++ (bs' ++ []), rfl, ?_, hk₈, (kbh₅.trans (.ofKeep hkd)).trans kb₈, hl₈, let ⟨o, es, ep, ho, r⟩ := hns₇; ⟨o, es, ep, hsb₈.extBut _ _ (Ne.symm hDC) ho, r⟩, hr, by rw [hdr]; simp, datsOf_snoc (b := []) (dd := []) hd0, ?_, fun a ha => ?_, by simp; omega, by omega, rfl⟩
        · exact itr.frame _ _ _ st₇ (fun b hb o e => hsb₈.extBut b o (fun (q : b = D) => hDw (q ▸ hb)) e) hk₈
        · rw [Array.toList_push]
          exact ((rd₅.keep F₅ hkd).move mv (fpW fp)).append (.cons (Rd.move mv rv₇ (fpW fy)) .nil)
        · exact (List.mem_append.mp ha).elim (fp a) fun ha => fy a (by simpa using ha)
    · have hie : i = ds.length := by omega
      subst hie
      rw [List.drop_length] at hrest
      cases hrest
      rw [List.append_nil] at hdr
      subst hdr
      rw [hdd] at hd0
      cases hd0
      refine itr.done _ _ _ st hk fun h₃ tk₃ b₃ => ?_
      have kb₃ : KeepB (fsOf X.A) W h h₃ := KeepB.exact b₃.size fun b o nw e => b₃.keep b o (fun m => nw (W3 m)) e
      refine hRR D Ca h₃ tk₃ m' as ys nn hs2 (by rw [hC]; exact Nat.le_succ_of_le hs2) hDC (let ⟨o, es, ep, ho, r⟩ := hns; ⟨o, es, ep, b₃.keep _ _ hCw ho, r⟩) (b₃.keep _ _ hDw hl) (Nat.le_trans hys dsz) ?_ (fun a ha => ?_) (fun a ha => ⟨fun e => fpW fp a ha (e ▸ W1), fun e => fpW fp a ha (e ▸ W2)⟩) (kp (kb.trans kb₃))
      · exact (rd.move (kb₃.moves Fh (tW st hl hns)) (fpW fp)).move (bar_moves fun a _ za => zz a za) fun _ _ => trivial
      · rcases fp a ha with ⟨h1, h2⟩ | h
        · subst hP₁; exact h2.1.imp (fun z => ⟨h1, z⟩) id
        · exact .inr (Nat.le_trans (Nat.le_trans hN k01.size) h)
  exact codeAny_compStart_list (loop _) (itr.self 0 _ _ _ st₁ (loop _))

end
end Mine
end

section
set_option linter.unusedVariables false
namespace Mine
open PySem
variable {Z : Addr → Prop}

section
variable {X : Bx} {wl : WLv} {env : Env} {ρ : Rho} {P : Addr → Prop} {N : Nat} {s : Shared} {L : Option Addr} {Qw : VB → Prop} {Bw : Bool → Prop} {Xw : Str → Prop} {Q E : Value → Shared → Prop} {QB : Bool → Shared → Prop}

/-- a block's own dict goes: all else stands -/
theorem keep_but {fs : List Addr} {h h' h'' : Heap} {Ca : Addr} (k : Keep fs h h') (hCa : h.objs.size ≤ Ca) (sb : Heap.SameBut Ca h' h'') : Keep fs h h'' := by
  have ne : ∀ b o, h.get? b = some o → b ≠ Ca := fun b o e q => by subst q; exact absurd (Heap.lt_size e) (Nat.not_lt.mpr hCa)
  exact ⟨Nat.le_trans k.size (Nat.le_of_eq sb.1.symm), fun b o e n => sb.extBut b o (ne b o e) (k.other b o e n), fun b o e => let ⟨sl, e'⟩ := k.slots b o e; ⟨sl, sb.extBut b _ (ne b o e) e'⟩⟩
theorem folded_plain (S : Sound X wl) {it : Expr} {tup : Bool} {Dw : List PyData → Prop} (h : witer X.C.K wl env.scope.names ρ tup it Dw Xw) : ∀ x, foldedSetIterable it env x = pure x := by
  intro x
  cases it with
  | Set es k p => exact absurd h (S.set _ _ _ _ _ _ _)
  | _ => rfl
theorem compOf_eq {gs : List Comprehension} {x : Str} {px : Pos} {it : Expr} {ifs : List Expr} (h : compOf gs = some (x, px, it, ifs)) : gs = [⟨.Name x px, it, ifs, 0⟩] := by
  unfold compOf at h
  split at h
  · cases h; rfl
  · cases h

/-- a comprehension: its iterator, its block, what is left -/
theorem comp_use (O : CxOk X.C) (S : Sound X wl) (at_ : At X env Z P ρ s) (hN : N ≤ s.heap.objs.size) {elt it : Expr} {x : Str} {px : Pos} {ifs : List Expr} {scope : Scope} {pos : Pos} (hq : X.q = false) (hcs : compScope env.scope.names scope.names x = true) (hkind : scope.kind = .function) {RR : Value → Addr → Result → Shared → Prop}
    (h : witer X.C.K wl env.scope.names ρ false it (fun ds => ∃ vs, WComp wl (compNames env.scope.names scope.names) (closing scope.names ρ) (.Name x px) ifs elt ds vs ∧ ∃ r, mkListC vs = some r ∧ Qw r) Xw)
    (hRR : ∀ all dd, datsOf all = some dd → Qw (.dat (.list dd), all.all (·.2)) → KC X Z P N s all dd RR) (hE : KE X env.frame s Xw E) :
    wpAny X.M X.A (eval it env) (fun xv s₁ => wpAny X.M X.A (pyIter xv) (fun itv s₂ => wpAny X.M X.A (newList []) (fun acc s₃ => wpAny X.M X.A (newFunctionEnv scope env.globals (clo env scope.names) [] env.qual none .none (some env)) (fun cenv s₄ =>
      codeAny X.M X.A (.compStart (.ListComp elt [⟨.Name x px, it, ifs, 0⟩] scope pos) 0 itv acc { cenv with scope := relabel scope env }) (RR acc cenv.locals) s₄) E s₃) E s₂) E s₁) E s :=
  iter_sound O S at_ hq hN (tgt := .Name x px) (fun _ => ⟨_, _, rfl⟩) (fun h => nomatch h) h (fun ds h' tk I Z' sf wr St hd k it z z' w sp l => by
    obtain ⟨all, hall, r, hr, hq⟩ := hd
    obtain ⟨dd, hdd, rfl⟩ := Option.map_eq_some_iff.mp hr
    exact comp_core S at_ hN hcs hkind k it z z' w sp l hall hdd (hRR all dd hdd hq)) hE

theorem ev_ListComp (O : CxOk X.C) (S : Sound X wl) (at_ : At X env Z P ρ s) (hN : N ≤ s.heap.objs.size) {elt it : Expr} {x : Str} {px : Pos} {ifs : List Expr} {scope : Scope} {pos : Pos} (h : wcompE X.C.K X.q wl env.scope.names ρ elt scope x px it ifs Qw Xw) (hQ : KO X Z P N s Qw Q) (hE : KE X env.frame s Xw E) :
    wpAny X.M X.A (eval (.ListComp elt [⟨.Name x px, it, ifs, 0⟩] scope pos) env) Q E s := by
  obtain ⟨hc, h⟩ := wif_elim h
  simp only [Bool.and_eq_true, Bool.not_eq_true', beq_iff_eq] at hc
  obtain ⟨⟨hq, hcs⟩, hkind⟩ := hc
  obtain ⟨c1, c2, c3, c4, c5⟩ := compScope_iff hcs
  rw [eval_ListComp]
  refine wpAny_comprehension_free (use := none) rfl (folded_plain S h) (closure_eq fun y hy e => at_.eok.cells y.1 ((c4 y hy e).1)) hkind c3 ?_
  refine comp_use O S at_ hN hq hcs hkind (RR := fun acc Ca => compPost X.M X.A _ none _ acc Ca) h (fun all dd hdd hq D Ca h' tk m' as ys nn hD hCa hDC hns hl hsz rd fp fpn k => ⟨m', hns, fun h'' hs'' => hQ _ _ h'' tk (D :: as) hq (keep_but k hCa hs'') (Rd.list (hs''.extBut _ _ hDC hl) hsz (rd.move (S := fun a => a ≠ Ca) ?_ fun a ha => (fpn a ha).2)) fun a ha => (List.mem_cons.mp ha).elim (fun q => .inr (q ▸ Nat.le_trans hN hD)) (fp a)⟩) hE
  refine ⟨fun a vs m nz e => ⟨nz, hs''.extBut _ _ ?_ e⟩, fun a ha vs m e => hs''.extBut _ _ ha e, fun a ha o m e _ => ⟨o.slots, hs''.extBut _ _ ha e⟩⟩
  rintro rfl
  obtain ⟨o, es, ep, ho, hd, _⟩ := hns
  rw [ho] at e; cases e; cases hd

theorem ev_Dict (hN : N ≤ s.heap.objs.size) {pos : Pos} (h : Qw (.dat (.dict []), true)) (hQ : KO X Z P N s Qw Q) : wpAny X.M X.A (eval (.Dict [] [] pos) env) Q E s :=
  wpAny_Dict_empty (hQ _ _ _ s.toks [s.heap.objs.size] h (Keep.push _ _ _) (Rd.dict (Heap.get?_push_size _ rfl) rfl rfl) fun a ha => by cases List.mem_singleton.mp ha; exact .inr hN)

set_option maxHeartbeats 2000000 in
theorem step_ev (O : CxOk X.C) (Fn : FnsOk X) (S : Sound X wl) (at_ : At X env Z P ρ s) (hN : N ≤ s.heap.objs.size) {e : Expr} (h : (wstep X.C.K X.q wl).ev env.scope.names ρ e Qw Xw) (hQ : KO X Z P N s Qw Q) (hE : KE X env.frame s Xw E) : wpAny X.M X.A (eval e env) Q E s := by
  cases e with
  | Constant c k p => exact ev_Constant h hQ
  | Name x p => exact ev_Name O at_ h hQ
  | BinOp l op r p => exact ev_BinOp S at_ hN h hQ hE
  | UnaryOp op x p =>
    cases op with
    | Not => exact ev_Not S at_ h hQ hE
    | USub => exact ev_USub S at_ h hQ hE
    | _ => exact False.elim h
  | BoolOp op es p =>
    cases es with
    | nil => exact False.elim h
    | cons e r => exact boolL_sound S r e s h at_ hQ hE
  | Compare l ops es p => obtain ⟨hm, h⟩ := wif_elim h; exact ev_Compare S at_ hm h hQ hE
  | List es p => exact ev_List S at_ hN h hQ hE
  | Tuple es k p => exact ev_Tuple S at_ hN h hQ hE
  | Dict ks vs p =>
    cases ks with
    | nil => cases vs with
      | nil => exact ev_Dict hN h hQ
      | cons _ _ => exact False.elim h
    | cons _ _ => exact False.elim h
  | ListComp elt gs scope p =>
    obtain ⟨⟨x, px, it, ifs⟩, hc, h⟩ := wopt_elim h
    rw [compOf_eq hc]
    exact ev_ListComp O S at_ hN h hQ hE
  | Call f args kw p =>
    cases kw with
    | nil =>
      obtain ⟨t, ht, h⟩ := wopt_elim h
      rw [nameOf_eq ht]
      exact ev_Call O Fn S at_ hN h hQ hE
    | cons _ _ => exact False.elim h
  | Subscript v sl p =>
    cases hs : sliceOf sl with
    | some t =>
      obtain ⟨lo, hi, st, pp⟩ := t
      simp only [wstep, hs] at h
      rw [sliceOf_eq hs]
      exact ev_Slice S at_ hN h hQ hE
    | none =>
      simp only [wstep, hs] at h
      exact ev_Subscript S at_ hN (by cases sl <;> first | rfl | cases hs) h hQ hE
  | _ => exact False.elim h

theorem step_cond (S : Sound X wl) (at_ : At X env Z P ρ s) {e : Expr} (h : (wstep X.C.K X.q wl).cond env.scope.names ρ e Bw Xw) (hQ : KB X s Bw QB) (hE : KE X env.frame s Xw E) : wpAny X.M X.A (isTrue e env (eval e env)) QB E s := by
  cases e with
  | UnaryOp op x p =>
    cases op with
    | Not =>
      show wpAny X.M X.A (do return !(← isTrue x env (eval x env))) _ _ s
      exact wpAny_bind (S.cond h at_ (fun b h' tk hb k => wpAny_pure (hQ _ h' tk hb k)) hE)
    | _ => exact cond_plain S at_ h hQ hE
  | BoolOp op es p => exact condL_sound S es s h at_ hQ hE
  | Compare l ops es p => obtain ⟨hm, h⟩ := wif_elim h; exact cond_Compare S at_ hm h hQ hE
  | IfExp _ _ _ _ => exact False.elim h
  | _ => exact cond_plain S at_ h hQ hE

theorem Sound.lev (O : CxOk X.C) (Fn : FnsOk X) : ∀ k, Sound X (wlev X.C.K X.q k)
  | 0 => ⟨fun _ _ _ _ _ _ h => h, fun _ _ _ _ _ _ _ h => h, fun _ h => False.elim h, fun h => False.elim h⟩
  | k + 1 => ⟨fun _ _ _ _ _ _ h => h, fun _ _ _ _ _ _ _ h => h, fun hN h at_ hQ hE => step_ev O Fn (Sound.lev O Fn k) at_ hN h hQ hE, fun h at_ hQ hE => step_cond (Sound.lev O Fn k) at_ h hQ hE⟩

end
end Mine
end

section
set_option linter.unusedVariables false
namespace Mine
open PySem
variable {Z : Addr → Prop}

/-- a call's block: around it; the frames, the heap and the arguments' lists as it began -/
structure Sx where
  B : Bx
  fs₀ : List Addr
  h₀ : Heap
  P₀ : Addr → Prop
  env : Env
/-- the block's own names, where they are kept -/
def Own (env : Env) (b : Addr) : Prop := b = env.locals ∨ ∃ x, env.cells.lookup x = some b
/-- its frame and cells are new over h₀ -/
structure Inn (Y : Sx) : Prop where
  frames : ∃ outer, Y.B.A.frames = some (Y.env :: outer) ∧ outer.filterMap (·.frame) = Y.fs₀
  frame : Y.env.frame = some Y.env.locals
  lnew : Y.h₀.objs.size ≤ Y.env.locals
  cnew : ∀ x c, Y.env.cells.lookup x = some c → Y.h₀.objs.size ≤ c ∧ c ≠ Y.env.locals
  hb0 : Y.B.C.hb.StaysIn Y.h₀
  fs0 : ∀ b ∈ Y.fs₀, ¬ Own Y.env b
  eok : EnvOk Y.env
theorem Inn.fs {Y : Sx} (I : Inn Y) : fsOf Y.B.A = Y.env.locals :: Y.fs₀ := by
  obtain ⟨outer, h1, h2⟩ := I.frames
  unfold fsOf
  rw [h1, Option.getD_some, List.filterMap_cons, I.frame, h2]
/-- a slot's value, its lists within its regions -/
inductive SlotAt (C : Cx) (env : Env) (Z : Addr → Prop) (R : Nat → Addr → Prop) (h : Heap) (m cm : Str → Option Value) (x : Str) (sl : Slot) : Prop
  | mk (v : Value) (as : List Addr) (e : valueAt env m cm x = some v) (r : VR C Z h v sl.v as) (p : ∀ a ∈ as, ∃ r ∈ sl.regs, R r a) (t : ∀ t, sl.top = some t → t ≠ 0 ∧ t ∈ sl.regs ∧ ∃ a, v = .ref a ∧ R t a)
inductive SVars (C : Cx) (env : Env) (Z : Addr → Prop) (R : Nat → Addr → Prop) (σ : Sg) (h : Heap) : Prop
  | mk (m cm : Str → Option Value) (f : Fm h env m cm) (a : ∀ x sl, σ.lookup x = some sl → SlotAt C env Z R h m cm x sl)
/-- the regions: apart, within the heap, not the block's own names; new, but for region 0: the arguments' lists -/
structure Regs (Y : Sx) (R : Nat → Addr → Prop) (h : Heap) : Prop where
  apart : ∀ i j a, R i a → R j a → i = j
  rin : ∀ i a, R i a → a < h.objs.size ∧ ¬ Own Y.env a
  rnew : ∀ i a, R i a → i ≠ 0 → Y.h₀.objs.size ≤ a
  rP : ∀ a, R 0 a → Y.P₀ a
theorem Regs.up {Y : Sx} {R : Nat → Addr → Prop} {h h' : Heap} (r : Regs Y R h) (l : h.objs.size ≤ h'.objs.size) : Regs Y R h' := ⟨r.apart, fun i a x => ⟨Nat.lt_of_lt_of_le (r.rin i a x).1 l, (r.rin i a x).2⟩, r.rnew, r.rP⟩
/-- what stands at a statement -/
structure SAt (Y : Sx) (Z : Addr → Prop) (R : Nat → Addr → Prop) (σ : Sg) (s : Shared) : Prop where
  ok : Okk Y.B Y.env.frame Z s.heap
  entry : Keep Y.fs₀ Y.h₀ s.heap
  vars : SVars Y.B.C Y.env Z R σ s.heap
  regs : Regs Y R s.heap
/-- what a statement leaves as it was -/
structure Ke (Y : Sx) (Z : Addr → Prop) (lk : List Nat) (R : Nat → Addr → Prop) (h h' : Heap) : Prop where
  kb : KeepB (fsOf Y.B.A) (fun b => Own Y.env b ∨ ∃ r, r ∉ lk ∧ R r b) h h'
  tup : ∀ a vs m, ¬ Z a → h.get? a = some (tupObj vs m) → h'.get? a = some (tupObj vs m)
/-- regions told anew: old addresses as before, locked regions as before -/
structure Rx (lk : List Nat) (R R' : Nat → Addr → Prop) (sz : Nat) : Prop where
  back : ∀ r a, a < sz → R' r a → R r a
  fwd : ∀ r, r ∈ lk → ∀ a, R r a → R' r a
theorem Rx.refl {lk : List Nat} {R : Nat → Addr → Prop} {sz : Nat} : Rx lk R R sz := ⟨fun _ _ _ h => h, fun _ _ _ h => h⟩
theorem Rx.trans {lk : List Nat} {R R' R'' : Nat → Addr → Prop} {sz sz' : Nat} (x : Rx lk R R' sz) (y : Rx lk R' R'' sz') (h : sz ≤ sz') : Rx lk R R'' sz :=
  ⟨fun r a l z => x.back r a l (y.back r a (Nat.lt_of_lt_of_le l h) z), fun r m a z => y.fwd r m a (x.fwd r m a z)⟩

/-- what is done behind a statement: going on; a return; an exception -/
def KN (Y : Sx) (Z : Addr → Prop) (lk : List Nat) (R : Nat → Addr → Prop) (s : Shared) (Qw : Out → Prop) (Q : Flow → Shared → Prop) : Prop :=
  ∀ σ' h' tk R', Qw (.next σ') → Ke Y Z lk R s.heap h' → Rx lk R R' s.heap.objs.size → SAt Y Z R' σ' { s with heap := h', toks := tk } → Q .next { s with heap := h', toks := tk }
inductive Ret (Y : Sx) (Z : Addr → Prop) (v : V) (fr : Bool) (val : Value) (h' : Heap) : Prop
  | mk (as : List Addr) (k : Keep Y.fs₀ Y.h₀ h') (r : VR Y.B.C Z h' val v as) (f : ∀ a ∈ as, ((fr = false ∧ Y.P₀ a) ∨ Y.h₀.objs.size ≤ a) ∧ ¬ Own Y.env a) (m : ∃ m, h'.Ns Y.env.locals m)
def KR (Y : Sx) (Z : Addr → Prop) (s : Shared) (Qw : Out → Prop) (Q : Flow → Shared → Prop) : Prop :=
  ∀ v fr val h' tk, Qw (.ret v fr) → Ret Y Z v fr val h' → Q (.ret val) { s with heap := h', toks := tk }
inductive Flies (Y : Sx) (Z : Addr → Prop) (c : Str) (e : Value) (h' : Heap) : Prop
  | mk (k : Keep Y.fs₀ Y.h₀ h') (o : Okk Y.B Y.env.frame Z h') (f : Fly Y.B.C.cls Y.h₀ h' Y.env.frame c e)
def KX (Y : Sx) (Z : Addr → Prop) (s : Shared) (Xw : Str → Prop) (E : Value → Shared → Prop) : Prop := ∀ c e h' tk, Xw c → Flies Y Z c e h' → E e { s with heap := h', toks := tk }
structure SoundX (Y : Sx) (x : WXv) : Prop where
  run : ∀ {lk : List Nat} {σ : Sg} {st : Stmt} {Z : Addr → Prop} {R : Nat → Addr → Prop} {s : Shared} {Qw Xw} {Q : Flow → Shared → Prop} {E : Value → Shared → Prop}, x.run lk σ st Qw Xw → SAt Y Z R σ s →
    KN Y Z lk R s Qw Q → KR Y Z s Qw Q → KX Y Z s Xw E → wpAny Y.B.M Y.B.A (exec st Y.env) Q E s

section
variable {Y : Sx} {R R' : Nat → Addr → Prop} {σ : Sg} {s : Shared} {lk : List Nat} {x : WXv} {wl : WLv} {Qw : Out → Prop} {Xw : Str → Prop} {Q : Flow → Shared → Prop} {E : Value → Shared → Prop}

theorem Ke.refl {h : Heap} : Ke Y Z lk R h h := ⟨KeepB.refl, fun _ _ _ _ e => e⟩
theorem Ke.trans {h h' h'' : Heap} (x : Ke Y Z lk R h h') (r : Rx lk R R' h.objs.size) (y : Ke Y Z lk R' h' h'') : Ke Y Z lk R h h'' := by
  have hw : ∀ b, b < h.objs.size → ¬ (Own Y.env b ∨ ∃ r, r ∉ lk ∧ R r b) → ¬ (Own Y.env b ∨ ∃ r, r ∉ lk ∧ R' r b) := fun b l nw z => nw (z.imp id fun ⟨q, h1, h2⟩ => ⟨q, h1, r.back q b l h2⟩)
  exact ⟨⟨Nat.le_trans x.kb.size y.kb.size, fun b o e nf nw => y.kb.other b o (x.kb.other b o e nf nw) nf (hw b (Heap.lt_size e) nw), fun b o e nw => let ⟨_, e1⟩ := x.kb.slots b o e nw; let ⟨s2, e2⟩ := y.kb.slots b _ e1 (hw b (Heap.lt_size e) nw); ⟨s2, e2⟩⟩, fun a vs m nz e => y.tup a vs m nz (x.tup a vs m nz e)⟩
theorem Ke.ofKeep {h h' : Heap} (F : FramesIn (fsOf Y.B.A) h) (k : Keep (fsOf Y.B.A) h h') : Ke Y Z lk R h h' := ⟨KeepB.ofKeep k, fun a vs m _ e => k.other a _ e (F.not_seq e rfl)⟩
theorem KN.after {h₁ : Heap} {tk₁ : Nat} (hN : KN Y Z lk R s Qw Q) (k : Ke Y Z lk R s.heap h₁) (rx : Rx lk R R' s.heap.objs.size) : KN Y Z lk R' { s with heap := h₁, toks := tk₁ } Qw Q :=
  fun σ' h' tk R' hq k' rx' a => hN σ' h' tk R' hq (k.trans rx k') (rx.trans rx' k.kb.size) a

theorem FunFrames_in {h h' base : Heap} : ∀ {l : List Env}, h.FunFrames base l → (∀ b ∈ l.filterMap (·.frame), ∃ o es ep, h'.get? b = some o ∧ o.data = .dict es ep) → h'.FunFrames base l
  | [], _, _ => trivial
  | env :: rest, ⟨hk, ⟨L, o, hf, hn, ho, hd⟩, hr⟩, hi => by
    have e : (env :: rest).filterMap (·.frame) = L :: rest.filterMap (·.frame) := by rw [List.filterMap_cons, hf]
    rw [e] at hi
    obtain ⟨o', es, ep, h1, h2⟩ := hi L (.head _)
    exact ⟨hk, ⟨L, o', hf, hn, h1, fun vs q => by rw [h2] at q; cases q⟩, FunFrames_in hr fun b hb => hi b (.tail _ hb)⟩
theorem Okk.frames {X : Bx} {fr : Option Addr} {h h' : Heap} (x : Okk X fr Z h) (hF : FramesIn (fsOf X.A) h') (hs : X.C.hb.StaysIn h') (hl : h.objs.size ≤ h'.objs.size) : Okk X fr Z h' :=
  ⟨let ⟨fenv, outer, hA, h2, hf⟩ := x.fr; ⟨fenv, outer, hA, h2, FunFrames_in hf fun b hb => hF b (by unfold fsOf; rw [hA]; exact hb)⟩, hF, hs, x.hand, x.depth, x.units, fun a hz => ⟨Nat.lt_of_lt_of_le (x.zin a hz).1 hl, (x.zin a hz).2⟩⟩

theorem rhoOf_lookup : ∀ (σ : Sg) {x : Str} {d : V}, (rhoOf σ).lookup x = some d → ∃ sl, σ.lookup x = some sl ∧ sl.v = d ∧ ∀ r ∈ sl.regs, r ∈ regsOf σ
  | [], x, d, h => by cases h
  | (y, sl) :: r, x, d, h => by
    unfold rhoOf at h
    rw [List.map_cons, List.lookup_cons] at h
    rw [List.lookup_cons]
    cases hxy : x == y with
    | true => rw [hxy] at h; cases h; exact ⟨sl, rfl, rfl, fun q hq => List.mem_append_left _ hq⟩
    | false =>
      rw [hxy] at h
      obtain ⟨sl', h1, h2, h3⟩ := rhoOf_lookup r (show (rhoOf r).lookup x = some d from h)
      exact ⟨sl', h1, h2, fun q hq => List.mem_append_right _ (h3 q hq)⟩
/-- what an expression may read -/
theorem SAt.at (x : SAt Y Z R σ s) (I : Inn Y) (ns : List Str) : At Y.B Y.env Z (fun a => ∃ r ∈ regsOf (pick σ ns), R r a) (rhoOf (pick σ ns)) s :=
  ⟨x.ok, I.eok, let ⟨m, cm, hf, hv⟩ := x.vars; ⟨m, cm, hf, fun y d e => by
    obtain ⟨sl, h1, rfl, h3⟩ := rhoOf_lookup _ e
    unfold pick at h1
    rw [lookup_filter (f := fun y => ns.contains y)] at h1
    split at h1
    · obtain ⟨v, as, k1, k2, k3, _⟩ := hv y sl h1
      exact ⟨v, as, k1, k2, fun a ha => let ⟨r, hr, hR⟩ := k3 a ha; ⟨r, h3 r hr, hR⟩⟩
    · cases h1⟩⟩
theorem own_new (I : Inn Y) : ∀ b, Own Y.env b → Y.h₀.objs.size ≤ b := fun b hb => hb.elim (fun q => q ▸ I.lnew) fun ⟨x, hx⟩ => (I.cnew x b hx).1
theorem SAt.old (a : SAt Y Z R σ s) {b : Addr} (o : Own Y.env b) : b < s.heap.objs.size := by
  obtain ⟨m, cm, hf, _⟩ := a.vars
  rcases o with rfl | ⟨z, hz⟩
  · exact hf.ns.lt
  · obtain ⟨o, ho, _⟩ := hf.cell z b hz
    exact Heap.lt_size ho
theorem SAt.ownObj (x : SAt Y Z R σ s) {a : Addr} (h : Own Y.env a) : ∃ o, s.heap.get? a = some o ∧ (∀ vs n, o.data ≠ .seq vs n) ∧ ∀ vs, o.data ≠ .fields vs := by
  obtain ⟨m, cm, hf, _⟩ := x.vars
  rcases h with rfl | ⟨z, hz⟩
  · obtain ⟨o, es, ep, ho, hd, _⟩ := hf.ns
    exact ⟨o, ho, fun _ _ e => (by rw [hd] at e; cases e), fun _ e => (by rw [hd] at e; cases e)⟩
  · obtain ⟨o, ho, hd⟩ := hf.cell z a hz
    exact ⟨o, ho, fun _ _ e => (by rw [hd] at e; cases e), fun _ e => (by rw [hd] at e; cases e)⟩
theorem SAt.ownTup (x : SAt Y Z R σ s) {a : Addr} (h : Own Y.env a) (vs : Array Value) (m : Nat) : s.heap.get? a ≠ some (tupObj vs m) := fun e => by
  obtain ⟨o, ho, h1, _⟩ := x.ownObj h
  rw [e] at ho; cases ho; exact h1 _ _ rfl
theorem Inn.keep0 (I : Inn Y) {h h' : Heap} {W : Addr → Prop} (e : Keep Y.fs₀ Y.h₀ h) (k : KeepB (fsOf Y.B.A) W h h') (hW : ∀ b, W b → Y.h₀.objs.size ≤ b) : Keep Y.fs₀ Y.h₀ h' := by
  rw [I.fs] at k
  have nw : ∀ b o, Y.h₀.get? b = some o → ¬ W b := fun b o ho w => absurd (Heap.lt_size ho) (Nat.not_lt.mpr (hW b w))
  refine ⟨Nat.le_trans e.size k.size, fun b o ho nf => k.other b o (e.other b o ho nf) (fun m => ?_) (nw b o ho), fun b o ho => let ⟨_, e1⟩ := e.slots b o ho; let ⟨s2, e2⟩ := k.slots b _ e1 (nw b o ho); ⟨s2, e2⟩⟩
  exact (List.mem_cons.mp m).elim (fun q => absurd (Heap.lt_size ho) (Nat.not_lt.mpr (q ▸ I.lnew))) nf
theorem VR.moves {C : Cx} {Z' : Addr → Prop} {h h' : Heap} {S : Addr → Prop} (mv : Moves Z Z' h h' S) (hx : ∀ b o vs, h.get? b = some o → o.data = .fields vs → (∃ c, o.cls = .ref (C.cls c)) → ∃ sl, h'.get? b = some { o with slots := sl }) {v : Value} {d : V} {as : List Addr} (r : VR C Z h v d as) (s : ∀ a ∈ as, S a) : VR C Z' h' v d as := by
  cases d with
  | dat d => exact Rd.move mv r s
  | exc c => exact ⟨r.1, let ⟨a, o, vs, hv, ho, dn, hc, hd⟩ := r.2; let ⟨_, e'⟩ := hx a o vs ho hd ⟨c, hc⟩; ⟨a, _, vs, hv, e', dn, hc, hd⟩⟩
/-- an expression was evaluated -/
theorem SAt.keep (x : SAt Y Z R σ s) (I : Inn Y) {h' : Heap} {tk : Nat} (k : Keep (fsOf Y.B.A) s.heap h') : SAt Y Z R σ { s with heap := h', toks := tk } :=
  ⟨x.ok.keep k, I.keep0 (W := fun _ => False) x.entry (.ofKeep k) (fun _ h => h.elim), let ⟨m, cm, hf, hv⟩ := x.vars; ⟨m, cm, hf.keep k, fun y sl e => let ⟨v, as, h1, h2, h3, h4⟩ := hv y sl e; ⟨v, as, h1, h2.keep x.ok.fin k, h3, h4⟩⟩, x.regs.up k.size⟩
/-- objects that no slot bears may go their own way -/
theorem SAt.keepB (a : SAt Y Z R σ s) (I : Inn Y) {W : Addr → Prop} {h' : Heap} {tk : Nat} (kb : KeepB (fsOf Y.B.A) W s.heap h')
    (hW : ∀ b, W b → Y.h₀.objs.size ≤ b ∧ ¬ Own Y.env b ∧ b ∉ fsOf Y.B.A ∧ (¬ Z b → ∀ vs m, s.heap.get? b ≠ some (tupObj vs m)) ∧ (∀ o vs c, s.heap.get? b = some o → o.data = .fields vs → o.cls ≠ .ref (Y.B.C.cls c)) ∧ ∀ x sl, σ.lookup x = some sl → ∀ i ∈ sl.regs, ¬ R i b) :
    SAt Y Z R σ { s with heap := h', toks := tk } := by
  obtain ⟨m, cm, hf, hv⟩ := a.vars
  have hF : FramesIn (fsOf Y.B.A) h' := fun b hb => let ⟨o, es, ep, ho, hd⟩ := a.ok.fin b hb; let ⟨_, e⟩ := kb.slots b o ho fun w => (hW b w).2.2.1 hb; ⟨_, es, ep, e, hd⟩
  have nwo : ∀ b, Own Y.env b → ¬ W b := fun b o w => (hW b w).2.1 o
  refine ⟨a.ok.frames hF (fun b o e => kb.other b o (a.ok.stays b o e) (a.ok.notBase e) fun w => absurd (Heap.lt_size (I.hb0 b o e)) (Nat.not_lt.mpr (hW b w).1)) kb.size, I.keep0 a.entry kb fun b w => (hW b w).1, ⟨m, cm, ⟨let ⟨o, es, ep, ho, hd⟩ := hf.ns; let ⟨_, e⟩ := kb.slots _ o ho (nwo _ (.inl rfl)); ⟨_, es, ep, e, hd⟩, fun z c hz => let ⟨o, ho, hd⟩ := hf.cell z c hz; let ⟨_, e⟩ := kb.slots _ o ho (nwo _ (.inr ⟨z, hz⟩)); ⟨_, e, hd⟩, hf.apart⟩, fun z sl e => ?_⟩, a.regs.up kb.size⟩
  obtain ⟨v, as, h1, h2, h3, h4⟩ := hv z sl e
  exact ⟨v, as, h1, h2.moves (kb.moves a.ok.fin fun b w nz => (hW b w).2.2.2.1 nz) (fun b o vs ho hd ⟨c, hc⟩ => kb.slots b o ho fun w => (hW b w).2.2.2.2.1 o vs c ho hd hc) fun b hb w => let ⟨r, hr, hR⟩ := h3 b hb; (hW b w).2.2.2.2.2 z sl e r hr hR, h3, h4⟩

def bump (R : Nat → Addr → Prop) (t : Nat) (Pt : Addr → Prop) (r : Nat) (a : Addr) : Prop := (r = t ∧ Pt a) ∨ (r ≠ t ∧ R r a)
theorem regs_lookup {x : Str} {sl : Slot} (h : σ.lookup x = some sl) : ∀ r ∈ sl.regs, r ∈ regsOf σ := fun r hr => List.mem_flatMap.mpr ⟨_, PySem.mem_of_lookup h, hr⟩
theorem regs_pick {ns : List Str} {r : Nat} (h : r ∈ regsOf (pick σ ns)) : r ∈ regsOf σ := by
  obtain ⟨q, hq, hr⟩ := List.mem_flatMap.mp h
  exact List.mem_flatMap.mpr ⟨q, (List.mem_filter.mp hq).1, hr⟩
theorem Regs.bump {h h' : Heap} {t : Nat} {Pt : Addr → Prop} (r : Regs Y R h) (l : h.objs.size ≤ h'.objs.size) (e : Y.h₀.objs.size ≤ h.objs.size) (ho : ∀ b, Own Y.env b → b < h.objs.size) (h0 : t ≠ 0) (hPt : ∀ a, Pt a → h.objs.size ≤ a ∧ a < h'.objs.size) : Regs Y (Mine.bump R t Pt) h' := by
  refine ⟨?_, ?_, ?_, ?_⟩
  · rintro i j a (⟨rfl, l1⟩ | ⟨n1, h1⟩) (⟨rfl, l3⟩ | ⟨n2, h2⟩)
    · rfl
    · exact absurd (r.rin j a h2).1 (Nat.not_lt.mpr (hPt a l1).1)
    · exact absurd (r.rin i a h1).1 (Nat.not_lt.mpr (hPt a l3).1)
    · exact r.apart i j a h1 h2
  · exact fun i a q => q.elim (fun q => ⟨(hPt a q.2).2, fun o => absurd (ho a o) (Nat.not_lt.mpr (hPt a q.2).1)⟩) fun q => (r.up l).rin i a q.2
  · exact fun i a q h => q.elim (fun q => Nat.le_trans e (hPt a q.2).1) fun q => r.rnew i a q.2 h
  · exact fun a q => q.elim (fun q => absurd q.1.symm h0) fun q => r.rP a q.2
theorem SVars.map {Z' : Addr → Prop} {h h' : Heap} {σ' : Sg} (x : SVars Y.B.C Y.env Z R σ h) (hf : ∀ m cm, Fm h Y.env m cm → Fm h' Y.env m cm) (hs : ∀ z sl, σ'.lookup z = some sl → σ.lookup z = some sl) (hR : ∀ z sl, σ.lookup z = some sl → ∀ r ∈ sl.regs, ∀ a, R r a → R' r a) (hv : ∀ {v d as}, VR Y.B.C Z h v d as → VR Y.B.C Z' h' v d as) : SVars Y.B.C Y.env Z' R' σ' h' :=
  let ⟨m, cm, f, a⟩ := x
  ⟨m, cm, hf m cm f, fun z sl e => let e := hs z sl e; let ⟨v, as, h1, h2, h3, h4⟩ := a z sl e; ⟨v, as, h1, hv h2, fun a ha => let ⟨r, hr, q⟩ := h3 a ha; ⟨r, hr, hR z sl e r hr a q⟩, fun t ht => let ⟨q1, q2, b, q3, q4⟩ := h4 t ht; ⟨q1, q2, b, q3, hR z sl e t q2 b q4⟩⟩⟩
/-- a new region is told: all that came since s; more is barred -/
theorem SAt.grow {Z' : Addr → Prop} (x : SAt Y Z R σ s) (I : Inn Y) {h' : Heap} {tk : Nat} {t : Nat} {Pt : Addr → Prop} (k : Keep (fsOf Y.B.A) s.heap h') (ht : ∀ r ∈ regsOf σ, r ≠ t) (h0 : t ≠ 0) (hPt : ∀ a, Pt a → s.heap.objs.size ≤ a ∧ a < h'.objs.size) (hz : ∀ b, Z' b → Z b ∨ (s.heap.objs.size ≤ b ∧ b < h'.objs.size)) :
    SAt Y Z' (bump R t Pt) σ { s with heap := h', toks := tk } :=
  have y := x.keep I (tk := tk) k
  ⟨y.ok.bar x.ok.stays hz, y.entry, x.vars.map (fun _ _ f => f.keep k) (fun _ _ e => e) (fun z sl e r hr a q => .inr ⟨ht r (regs_lookup e r hr), q⟩) (fun r => VR.keep (Z := Z') x.ok.fin k (r.moves (bar_moves fun b l zb => (hz b zb).elim id fun ⟨q, _⟩ => absurd l (Nat.not_lt.mpr q)) (fun b o vs ho _ _ => ⟨o.slots, ho⟩) fun _ _ => trivial)), x.regs.bump k.size x.entry.size (fun b o => x.old o) h0 hPt⟩
theorem Rx.bump {t lo : Nat} {Pt : Addr → Prop} (ht : ∀ r ∈ lk, r ≠ t) (hPt : ∀ a, Pt a → lo ≤ a) : Rx lk R (Mine.bump R t Pt) lo :=
  ⟨fun r a l h => h.elim (fun ⟨_, q⟩ => absurd l (Nat.not_lt.mpr (hPt a q))) fun q => q.2, fun r hr a h => .inr ⟨ht r hr, h⟩⟩

theorem setS_lookup {x y : Str} {sl : Slot} : ∀ (σ : Sg), (setS y sl σ).lookup x = if x == y then some sl else σ.lookup x
  | [] => by
    rw [setS, List.lookup_cons]
    cases x == y <;> rfl
  | (z, s) :: r => by
    rw [setS]
    by_cases hz : (z == y) = true
    · have := eq_of_beq hz; subst this
      rw [if_pos hz, List.lookup_cons, List.lookup_cons]
      cases x == z <;> rfl
    · rw [if_neg hz, List.lookup_cons, setS_lookup r, List.lookup_cons]
      cases hx : x == z with
      | false => rfl
      | true =>
        have := eq_of_beq hx; subst this
        simp only [hz, Bool.false_eq_true, if_false]

/-- what a value and its slot promise -/
inductive Slotted (C : Cx) (Z : Addr → Prop) (R : Nat → Addr → Prop) (h : Heap) (v : Value) (sl : Slot) : Prop
  | mk (as : List Addr) (r : VR C Z h v sl.v as) (p : ∀ a ∈ as, ∃ r ∈ sl.regs, R r a) (t : ∀ t, sl.top = some t → t ≠ 0 ∧ t ∈ sl.regs ∧ ∃ a, v = .ref a ∧ R t a)
/-- a name gets a value, whatever is told of it -/
theorem store_gen (x : SAt Y Z R σ s) (I : Inn Y) {y : Str} (hs : storable Y.env.scope.names y = true) {v : Value} {σ' : Sg} (sd : ∀ z sl, σ'.lookup z = some sl → (z = y ∧ Slotted Y.B.C Z R s.heap v sl) ∨ (z ≠ y ∧ σ.lookup z = some sl)) {Q : Unit → Shared → Prop}
    (hQ : ∀ h' tk, KeepB (fsOf Y.B.A) (Own Y.env) s.heap h' → (∀ a vs m, s.heap.get? a = some (tupObj vs m) → h'.get? a = some (tupObj vs m)) → SAt Y Z R σ' { s with heap := h', toks := tk } → (∃ m cm, Fm h' Y.env m cm ∧ valueAt Y.env m cm y = some v) → Q () { s with heap := h', toks := tk }) :
    wpAny Y.B.M Y.B.A (storeName Y.env y v) Q E s := by
  obtain ⟨m, cm, hf, hv⟩ := x.vars
  have core : ∀ h' tk m' cm', KeepB (fsOf Y.B.A) (Own Y.env) s.heap h' → Fm h' Y.env m' cm' → valueAt Y.env m' cm' y = some v → (∀ z, z ≠ y → valueAt Y.env m' cm' z = valueAt Y.env m cm z) → Q () { s with heap := h', toks := tk } := by
    intro h' tk m' cm' kb hf' hy hz
    have hF : FramesIn (fsOf Y.B.A) h' := fun b hb => by
      rw [I.fs] at hb
      rcases List.mem_cons.mp hb with rfl | hb
      · obtain ⟨o, es, ep, ho, hd, _⟩ := hf'.ns
        exact ⟨o, es, ep, ho, hd⟩
      · obtain ⟨o, es, ep, ho, hd⟩ := x.ok.fin b (by rw [I.fs]; exact .tail _ hb)
        obtain ⟨sl', e⟩ := kb.slots b o ho (I.fs0 b hb)
        exact ⟨_, es, ep, e, hd⟩
    have mv : ∀ {u : Value} {d : V} {bs : List Addr}, VR Y.B.C Z s.heap u d bs → (∀ a ∈ bs, ¬ Own Y.env a) → VR Y.B.C Z h' u d bs := fun r hb => r.moves (kb.moves x.ok.fin fun a o _ vs m => x.ownTup o vs m) (fun b o vs ho hd _ => kb.slots b o ho fun q => by
      obtain ⟨o', ho', _, h2⟩ := x.ownObj q
      rw [ho] at ho'; cases ho'; exact h2 _ hd) hb
    refine hQ h' tk kb (fun a vs m e => kb.other a _ e (x.ok.fin.not_seq e rfl) fun o => x.ownTup o vs m e) ⟨x.ok.frames hF (fun b o e => kb.other b o (x.ok.stays b o e) (x.ok.notBase e) fun w => absurd (Heap.lt_size (I.hb0 b o e)) (Nat.not_lt.mpr (own_new I b w))) kb.size, I.keep0 x.entry kb (own_new I), ⟨m', cm', hf', fun z sl' e => ?_⟩, x.regs.up kb.size⟩ ⟨m', cm', hf', hy⟩
    rcases sd z sl' e with ⟨rfl, as, rv, fr, tp⟩ | ⟨hzy, e⟩
    · exact ⟨v, as, hy, mv rv fun a ha => let ⟨r, _, hR⟩ := fr a ha; (x.regs.rin r a hR).2, fr, tp⟩
    · obtain ⟨u, bs, h1, h2, h3, h4⟩ := hv z sl' e
      exact ⟨u, bs, by rw [hz z hzy]; exact h1, mv h2 fun a ha => let ⟨r, _, hR⟩ := h3 a ha; (x.regs.rin r a hR).2, h3, h4⟩
  unfold storable at hs
  rcases Bool.or_eq_true_iff.mp hs with hk | hk
  · have hk' : Y.env.kindOf y = some .local := eq_of_beq hk
    refine wpAny_sized (wpAny_storeName_local hk' hf.ns (fun h' hn' hs' hsz => core h' _ (fun z => if z = y then some v else m z) cm (KeepB.exact hsz fun b o nw e => hs'.extBut b o (fun q => nw (.inl q)) e) ⟨hn', fun z c hz => ?_, hf.apart⟩ ?_ fun z hz => ?_) (by rw [I.eok.kind]; rfl))
    · obtain ⟨o, ho, hd⟩ := hf.cell z c hz
      exact ⟨o, hs'.extBut c o (I.cnew z c hz).2 ho, hd⟩
    · unfold valueAt; rw [hk']; simp
    · unfold valueAt; split <;> simp [hz]
  · have hk' : Y.env.kindOf y = some .cell := eq_of_beq hk
    obtain ⟨c, hc⟩ := Option.isSome_iff_exists.mp (I.eok.cells y (.inl hk'))
    refine wpAny_sized (wpAny_storeName_cell I.eok.kind hk' hc (hf.cell y c hc) fun h' hc' hs' hsz => core h' _ m (fun z => if z = y then some v else cm z) (KeepB.exact hsz fun b o nw e => hs'.extBut b o (fun q => nw (.inr ⟨y, by rw [q]; exact hc⟩)) e) ⟨?_, fun z c' hz => ?_, hf.apart⟩ ?_ fun z hz => ?_)
    · obtain ⟨o, es, ep, ho, hd⟩ := hf.ns
      exact ⟨o, es, ep, hs'.extBut _ o (Ne.symm (I.cnew y c hc).2) ho, hd⟩
    · by_cases hzy : z = y
      · subst hzy
        rw [hc] at hz; cases hz
        simpa using hc'
      · have ne : c' ≠ c := fun q => hzy (apart_lookup hf.apart (PySem.mem_of_lookup hz) (q ▸ PySem.mem_of_lookup hc))
        obtain ⟨o, ho, hd⟩ := hf.cell z c' hz
        exact ⟨o, hs'.extBut c' o ne ho, by simpa [hzy] using hd⟩
    · unfold valueAt; rw [hk']; simp [hc]
    · unfold valueAt; split <;> simp [hz]

/-- a name gets a value -/
theorem store_sound (x : SAt Y Z R σ s) (I : Inn Y) {y : Str} (hs : storable Y.env.scope.names y = true) {v : Value} {sl : Slot} (sd : Slotted Y.B.C Z R s.heap v sl) {Q : Unit → Shared → Prop}
    (hQ : ∀ h' tk, KeepB (fsOf Y.B.A) (Own Y.env) s.heap h' → (∀ a vs m, s.heap.get? a = some (tupObj vs m) → h'.get? a = some (tupObj vs m)) → SAt Y Z R (setS y sl σ) { s with heap := h', toks := tk } → Q () { s with heap := h', toks := tk }) :
    wpAny Y.B.M Y.B.A (storeName Y.env y v) Q E s :=
  store_gen x I hs (σ' := setS y sl σ) (fun z sl' e => by
    rw [setS_lookup] at e
    by_cases hzy : (z == y) = true
    · rw [if_pos hzy] at e; cases e; exact .inl ⟨eq_of_beq hzy, sd⟩
    · rw [if_neg hzy] at e; exact .inr ⟨by simpa using hzy, e⟩) fun h' tk kb tup a _ => hQ h' tk kb tup a

theorem KX.toX (hX : KX Y Z s Xw E) (a : SAt Y Z R σ s) (I : Inn Y) : KE Y.B Y.env.frame s Xw E := fun c e h' tk hc k f => hX c e h' tk hc ⟨I.keep0 (W := fun _ => False) a.entry (.ofKeep k) (fun _ h => h.elim), a.ok.keep k, f.older a.entry⟩

/-- a value's slot -/
theorem slotOf_sound {ns : List Str} {h' : Heap} {Pt : Addr → Prop} {r : VB} {v : Value} {as : List Addr} (rv : VR Y.B.C Z h' v r.1 as) (fp : Fp r.2 (fun a => ∃ q ∈ regsOf (pick σ ns), R q a) s.heap.objs.size as) (hP : ∀ a ∈ as, s.heap.objs.size ≤ a → Pt a) :
    Slotted Y.B.C Z (bump R (freshOf σ lk) Pt) h' v (slotOf (freshOf σ lk) (regsOf (pick σ ns)) r) := by
  unfold slotOf
  by_cases hf : r.1.flat = true
  · rw [if_pos hf]
    exact ⟨as, rv, fun b hb => (by rw [rv.flat_nil hf] at hb; cases hb), fun t ht => (by cases ht)⟩
  · rw [if_neg hf]
    by_cases hn : r.2 = true
    · rw [if_pos hn]
      have nw : ∀ b ∈ as, s.heap.objs.size ≤ b := fun b hb => (fp b hb).elim (fun z => by rw [hn] at z; cases z.1) id
      refine ⟨as, rv, fun b hb => ⟨_, .head _, .inl ⟨rfl, hP b hb (nw b hb)⟩⟩, fun t ht => ?_⟩
      obtain ⟨rv1, rv2⟩ := r
      cases rv1 with
      | exc c => cases ht
      | dat d =>
        cases d with
        | list xs =>
          cases ht
          cases rv with
          | list e z rr => exact ⟨fresh_pos, .head _, _, rfl, .inl ⟨rfl, hP _ (.head _) (nw _ (.head _))⟩⟩
        | _ => cases ht
    · rw [if_neg hn]
      exact ⟨as, rv, fun b hb => (fp b hb).elim (fun ⟨_, q, hq, hR⟩ => ⟨q, .tail _ hq, .inr ⟨fresh_regs (regs_pick hq), hR⟩⟩) fun z => ⟨_, .head _, .inl ⟨rfl, hP b hb z⟩⟩, fun t ht => by cases ht⟩
/-- an expression's value and its slot -/
theorem evS_sound (S : Sound Y.B wl) (I : Inn Y) (a : SAt Y Z R σ s) {e : Expr} {Sw : Slot → Prop} {QV : Value → Shared → Prop} (h : wevS wl Y.env.scope.names lk σ e Sw Xw)
    (hQ : ∀ sl v h' tk R', Sw sl → Keep (fsOf Y.B.A) s.heap h' → Rx lk R R' s.heap.objs.size → (∀ a, R' (freshOf σ lk) a → s.heap.objs.size ≤ a) → SAt Y Z R' σ { s with heap := h', toks := tk } → Slotted Y.B.C Z R' h' v sl → QV v { s with heap := h', toks := tk }) (hE : KE Y.B Y.env.frame s Xw E) :
    wpAny Y.B.M Y.B.A (eval e Y.env) QV E s :=
  S.ev (Nat.le_refl _) h (a.at I (nms e)) (fun r v h' tk as hr k rv fp =>
    have lts := rv.lt
    hQ _ v h' tk (bump R (freshOf σ lk) fun a => s.heap.objs.size ≤ a ∧ a < h'.objs.size) hr k (Rx.bump (fun r hr => fresh_lk hr) (fun a h => h.1)) (fun a h => h.elim (fun z => z.2.1) fun z => absurd rfl z.1) (a.grow I k (fun r hr => fresh_regs hr) fresh_pos (fun a h => h) (fun b h => .inl h)) (slotOf_sound rv fp fun b hb z => ⟨z, lts b hb⟩)) hE

end
end Mine
end

section
set_option linter.unusedVariables false
namespace Mine
open PySem
variable {Z : Addr → Prop}

section
variable {Y : Sx} {R R' : Nat → Addr → Prop} {σ : Sg} {s : Shared} {lk : List Nat} {x : WXv} {wl : WLv} {Qw : Out → Prop} {Xw : Str → Prop} {Q : Flow → Shared → Prop} {E : Value → Shared → Prop}

/-- a run of statements -/
theorem runs_sound (S : SoundX Y x) : ∀ (sts : List Stmt) {lk : List Nat} {σ : Sg} {Z : Addr → Prop} {R : Nat → Addr → Prop} {s : Shared} {Qw Xw} {Q : Flow → Shared → Prop} {E : Value → Shared → Prop}, wruns x lk σ sts Qw Xw → SAt Y Z R σ s →
    KN Y Z lk R s Qw Q → KR Y Z s Qw Q → KX Y Z s Xw E → wpAny Y.B.M Y.B.A (execs sts Y.env) Q E s
  | [], lk, σ, Z, R, s, Qw, Xw, Q, E, h, a, hN, hR, hX => wpAny_execs_nil (hN σ s.heap s.toks R h Ke.refl Rx.refl a)
  | st :: r, lk, σ, Z, R, s, Qw, Xw, Q, E, h, a, hN, hR, hX =>
    wpAny_execs_cons (S.run h a (fun σ' h' tk R' hq k rx a' => runs_sound S r hq a' (hN.after k rx) hR hX) (fun v fr val h' tk hq ret => hR v fr val h' tk hq ret) hX)

theorem SAt.mask (a : SAt Y Z R σ s) (dom : List Str) : SAt Y Z R (Mine.mask dom σ) s :=
  ⟨a.ok, a.entry, a.vars.map (fun _ _ f => f) (fun z sl e => by
    unfold Mine.mask at e
    rw [lookup_filter (f := fun y => dom.contains y)] at e
    split at e
    · exact e
    · cases e) (fun _ _ _ _ _ _ q => q) id, a.regs⟩
theorem run_If (S : Sound Y.B wl) (S' : SoundX Y x) (I : Inn Y) {c : Expr} {b o : List Stmt} {pos : Pos} (a : SAt Y Z R σ s) (h : wl.cond Y.env.scope.names (rhoOf (pick σ (nms c))) c (fun t => (match t with | true => wbind (wruns x lk σ b) (masked o (σ.map fun (p : Str × Slot) => p.1)) | false => wruns x lk σ o) Qw Xw) Xw)
    (hN : KN Y Z lk R s Qw Q) (hR : KR Y Z s Qw Q) (hX : KX Y Z s Xw E) : wpAny Y.B.M Y.B.A (exec (.If c b o pos) Y.env) Q E s := by
  refine wpAny_If (S.cond h (a.at I (nms c)) (fun t h' tk ht k => ?_) (hX.toX a I))
  have hN' := hN.after (tk₁ := tk) (Ke.ofKeep a.ok.fin k) Rx.refl
  cases t with
  | true => exact runs_sound S' b ht (a.keep I k) (fun σ' h' tk R' hq k rx a' => hN' _ h' tk R' hq k rx (by cases o with | nil => exact a'.mask _ | cons _ _ => exact a')) (fun v fr val h' tk hq ret => hR v fr val h' tk hq ret) hX
  | false => exact runs_sound S' o ht (a.keep I k) hN' hR hX

theorem ret_of {sl : Slot} {v : Value} {h' : Heap} {tk : Nat} (a' : SAt Y Z R' σ { s with heap := h', toks := tk }) (sd : Slotted Y.B.C Z R' h' v sl) : Ret Y Z sl.v (!sl.regs.contains 0) v h' := by
  obtain ⟨m, cm, hf, _⟩ := a'.vars
  obtain ⟨as, rv, fp, _⟩ := sd
  refine ⟨as, a'.entry, rv, fun b hb => ?_, m, hf.ns⟩
  obtain ⟨r, hr, hR⟩ := fp b hb
  refine ⟨?_, (a'.regs.rin r b hR).2⟩
  by_cases h0 : r = 0
  · subst h0
    exact .inl ⟨by simpa using hr, a'.regs.rP b hR⟩
  · exact .inr (a'.regs.rnew r b hR h0)
theorem run_Return (S : Sound Y.B wl) (I : Inn Y) {e : Expr} {pos : Pos} (a : SAt Y Z R σ s) (h : wevS wl Y.env.scope.names lk σ e (fun sl => Qw (.ret sl.v (!sl.regs.contains 0))) Xw) (hR : KR Y Z s Qw Q) (hX : KX Y Z s Xw E) :
    wpAny Y.B.M Y.B.A (exec (.Return (some e) pos) Y.env) Q E s :=
  wpAny_Return_some (evS_sound S I a h (fun sl v h' tk R' hs k rx nw a' sd => hR _ _ v h' tk hs (ret_of a' sd)) (hX.toX a I))
theorem run_ReturnNone {pos : Pos} (a : SAt Y Z R σ s) (h : Qw (.ret (.dat .none) true)) (hR : KR Y Z s Qw Q) : wpAny Y.B.M Y.B.A (exec (.Return none pos) Y.env) Q E s := by
  obtain ⟨m, cm, hf, _⟩ := a.vars
  exact wpAny_Return_none (hR _ _ .none s.heap s.toks h ⟨[], a.entry, Rd.none, (fun _ m => nomatch m), m, hf.ns⟩)

/-- a name gets an expression's value -/
theorem run_Assign (S : Sound Y.B wl) (I : Inn Y) {y : Str} {py pos : Pos} {e : Expr} (a : SAt Y Z R σ s) (hst : storable Y.env.scope.names y = true) (h : wevS wl Y.env.scope.names lk σ e (fun sl => Qw (.next (setS y sl σ))) Xw) (hsw : swapsWith e (some (.Name y py)) pos.line Y.env = pure false)
    (hN : KN Y Z lk R s Qw Q) (hX : KX Y Z s Xw E) : wpAny Y.B.M Y.B.A (exec (.Assign [.Name y py] e pos) Y.env) Q E s :=
  wpAny_Assign_Name (evS_sound S I a h (fun sl v h' tk R' hs k rx nw a' sd => store_sound a' I hst sd fun h'' tk'' kb tup a'' => hN _ h'' tk'' R' hs ((Ke.ofKeep a.ok.fin k).trans rx ⟨kb.mono fun b _ o => .inl o, fun a vs m _ e => tup a vs m e⟩) rx a'') (hX.toX a I)) hsw

/-- an expression for its own sake -/
theorem run_Expr (S : Sound Y.B wl) (I : Inn Y) {e : Expr} {pos : Pos} (a : SAt Y Z R σ s) (hc : swapsWith e none pos.line Y.env = pure false) (h : wl.ev Y.env.scope.names (rhoOf (pick σ (nms e))) e (fun r => noRef r.1 = true ∧ Qw (.next σ)) Xw)
    (hN : KN Y Z lk R s Qw Q) (hX : KX Y Z s Xw E) : wpAny Y.B.M Y.B.A (exec (.Expr e pos) Y.env) Q E s := by
  refine wpAny_Expr (S.ev (Nat.le_refl _) h (a.at I (nms e)) (fun r v h' tk as hr k rv fp => ?_) (hX.toX a I)) (by unfold interactive; rw [I.eok.kind]; rfl) hc
  have fin := hN σ h' tk R hr.2 (Ke.ofKeep a.ok.fin k) Rx.refl (a.keep I k)
  obtain ⟨rv1, fl⟩ := r
  obtain ⟨hn, _⟩ := hr
  cases rv1 with
  | exc c => cases hn
  | dat d => cases d <;> first | cases hn; done | (cases rv; exact fin)

theorem killS_lookup {t : Nat} {y : Str} {sl : Slot} (h : (killS t σ).lookup y = some sl) : σ.lookup y = some sl ∧ t ∉ sl.regs := by
  unfold killS at h
  rw [lookup_filter (f := fun z => !bears σ t z)] at h
  split at h
  · rename_i hb
    refine ⟨h, ?_⟩
    unfold bears at hb
    rw [h] at hb
    simpa using hb
  · cases h
theorem Fm.det {env : Env} {h : Heap} {m m' cm cm' : Str → Option Value} (x : Fm h env m cm) (y : Fm h env m' cm') (z : Str) : valueAt env m cm z = valueAt env m' cm' z := by
  have h1 : m z = m' z := by
    obtain ⟨o, es, ep, ho, hd, _, hm⟩ := x.ns
    obtain ⟨o', es', ep', ho', hd', _, hm'⟩ := y.ns
    rw [ho] at ho'; cases ho'
    rw [hd] at hd'; cases hd'
    rw [← hm z, ← hm' z]
  have h2 : (env.cells.lookup z).isSome = true → cm z = cm' z := fun hs => by
    obtain ⟨c, hc⟩ := Option.isSome_iff_exists.mp hs
    obtain ⟨o, ho, hd⟩ := x.cell z c hc
    obtain ⟨o', ho', hd'⟩ := y.cell z c hc
    rw [ho] at ho'; cases ho'
    rw [hd] at hd'
    injection hd'
  unfold valueAt
  rw [h1]
  cases hs : (env.cells.lookup z).isSome with
  | true => rw [h2 hs]
  | false => rfl

/-- what is all new and was put into a list is told to lie in the list's own region -/
inductive Merged (Y : Sx) (lk : List Nat) (R R' : Nat → Addr → Prop) (σ : Sg) (h : Heap) (rg rs rj : List Nat) (t sz : Nat) (D : Addr) : Prop
  | mk (R3 : Nat → Addr → Prop) (rx : Rx lk R R3 sz) (rg3 : Regs Y R3 h) (oth : ∀ z sl', (killS t σ).lookup z = some sl' → ∀ r ∈ sl'.regs, ∀ a, R' r a → R3 r a) (g : ∀ r ∈ rg, ∀ a, R' r a → ∃ r' ∈ rj, R3 r' a) (n : ∀ r ∈ rs, ∀ a, R' r a → ∃ r' ∈ rj, R3 r' a) (tin : t ∈ rj) (d : R3 t D)
theorem merged {h : Heap} {y : Str} {v : V} {rg rs : List Nat} {t : Nat} {D : Addr} {sz : Nat} (rr : Regs Y R' h) (rx : Rx lk R R' sz) (nw : ∀ a, R' (freshOf σ lk) a → sz ≤ a) (hlk : σ.lookup y = some ⟨v, rg, some t⟩) (tin : t ∈ rg)
    (tlk : t ∉ lk) (t0 : t ≠ 0) (hRD : R' t D) : Merged Y lk R R' σ h rg rs (joinRg (freshOf σ lk) rg rs) t sz D := by
  unfold joinRg
  by_cases hu : (rs == [freshOf σ lk]) = true
  · rw [if_pos hu]
    have := eq_of_beq hu
    subst this
    have tu : t ≠ freshOf σ lk := fresh_regs (regs_lookup hlk t tin)
    refine ⟨fun r a => (r = t ∧ (R' t a ∨ R' (freshOf σ lk) a)) ∨ (r ≠ t ∧ r ≠ freshOf σ lk ∧ R' r a), ⟨fun r a l h => ?_, fun r hr a h => .inr ⟨fun z => tlk (z ▸ hr), fresh_lk hr, rx.fwd r hr a h⟩⟩, ⟨fun i j a hi hj => ?_, fun i a h => ?_, fun i a h hi => ?_, fun a h => ?_⟩, fun z sl' e r hr a h => .inr ⟨fun z => (killS_lookup e).2 (z ▸ hr), fresh_regs (regs_lookup (killS_lookup e).1 r hr), h⟩, fun r hr a h => ?_, fun r hr a h => ?_, tin, .inl ⟨rfl, .inl hRD⟩⟩
    · rcases h with ⟨rfl, h | h⟩ | ⟨_, _, h⟩
      · exact rx.back _ _ l h
      · exact absurd l (Nat.not_lt.mpr (nw a h))
      · exact rx.back _ _ l h
    · rcases hi with ⟨rfl, hi | hi⟩ | ⟨h1, h2, hi⟩ <;> rcases hj with ⟨rfl, hj | hj⟩ | ⟨k1, k2, hj⟩
      · rfl
      · rfl
      · exact rr.apart _ _ _ hi hj
      · rfl
      · rfl
      · exact absurd (rr.apart _ _ _ hj hi) k2
      · exact rr.apart _ _ _ hi hj
      · exact absurd (rr.apart _ _ _ hi hj) h2
      · exact rr.apart _ _ _ hi hj
    · rcases h with ⟨rfl, h | h⟩ | ⟨_, _, h⟩ <;> exact rr.rin _ a h
    · rcases h with ⟨rfl, h | h⟩ | ⟨_, _, h⟩
      · exact rr.rnew _ a h hi
      · exact rr.rnew _ a h fresh_pos
      · exact rr.rnew _ a h hi
    · exact h.elim (fun z => absurd z.1.symm t0) fun z => rr.rP a z.2.2
    · by_cases hr' : r = t
      · exact ⟨t, tin, .inl ⟨rfl, .inl (hr' ▸ h)⟩⟩
      · exact ⟨r, hr, .inr ⟨hr', fresh_regs (regs_lookup hlk r hr), h⟩⟩
    · cases List.mem_singleton.mp hr
      exact ⟨t, tin, .inl ⟨rfl, .inr h⟩⟩
  · rw [if_neg hu]
    exact ⟨R', rx, rr, fun _ _ _ _ _ _ h => h, fun r hr a h => ⟨r, List.mem_append_left _ hr, h⟩, fun r hr a h => ⟨r, List.mem_append_right _ hr, h⟩, List.mem_append_left _ tin, hRD⟩

theorem SAt.name (a : SAt Y Z R σ s) (I : Inn Y) {y : Str} {pos : Pos} {sl : Slot} {QV : Value → Shared → Prop} (hd : (y == ("__debug__" : Str)) = false) (hd2 : (y == ("__classdict__" : Str)) = false) (hy : σ.lookup y = some sl)
    (h : ∀ v, Slotted Y.B.C Z R s.heap v sl → (∃ m cm, Fm s.heap Y.env m cm ∧ valueAt Y.env m cm y = some v) → QV v s) : wpAny Y.B.M Y.B.A (eval (.Name y pos) Y.env) QV E s :=
  let ⟨m, cm, hf, hv⟩ := a.vars
  let ⟨v, as, h1, h2, h3, h4⟩ := hv y sl hy
  name_val I.eok hf h1 hd hd2 (h v ⟨as, h2, h3, h4⟩ ⟨m, cm, hf, h1⟩)

/-- a list of one's own grows -/
theorem run_Append (S : Sound Y.B wl) (I : Inn Y) {y : Str} {py apos cpos pos : Pos} {e : Expr} {xs : List PyData} {rg : List Nat} {t : Nat} (a : SAt Y Z R σ s) (hline : (apos.endLine == cpos.line) = true) (hd1 : (y == ("__debug__" : Str)) = false) (hd2 : (y == ("__classdict__" : Str)) = false)
    (hlk : σ.lookup y = some ⟨.dat (.list xs), rg, some t⟩) (h : wappend wl Y.env.scope.names lk σ y xs rg t e Qw Xw) (hN : KN Y Z lk R s Qw Q) (hX : KX Y Z s Xw E) :
    wpAny Y.B.M Y.B.A (exec (.Expr (.Call (.Attribute (.Name y py) "append" apos) [e] [] cpos) pos) Y.env) Q E s := by
  obtain ⟨hlt, h⟩ := h
  simp only [Bool.or_eq_false_iff, decide_eq_false_iff_not] at hlt
  obtain ⟨hlk', hlen⟩ := hlt
  have hlk' : t ∉ lk := by simpa using hlk'
  have hstar : backTo cpos (starEach [e] Y.env) = [(false, eval e Y.env)] := by rw [starEach_cons S h]; rfl
  refine wpAny_Expr (wpAny_Call_append rfl (by rw [hstar]; rfl) hline hstar (a.name I hd1 hd2 hlk fun v sd hm => ?_)) (by unfold interactive; rw [I.eok.kind]; rfl) rfl
  obtain ⟨as0, rv, _, tp⟩ := sd
  obtain ⟨_, _, D, rfl, _⟩ := tp t rfl
  cases rv with
  | @list _ vs nn _ as ho hz rr =>
  refine ⟨D, vs, rfl, ⟨_, nn, ho, rfl, rfl, rfl⟩, evS_sound S I a h (fun sl w h' tk R' hs k rx nw a' sd => ?_) (hX.toX a I)⟩
  obtain ⟨bs, rw', fp, _⟩ := sd
  cases hsv : sl.v with
  | exc c => rw [hsv] at hs; exact hs.elim
  | dat d =>
  rw [hsv] at hs rw'
  obtain ⟨hct, hq⟩ := hs
  have hct : t ∉ sl.regs := by simpa using hct
  obtain ⟨m2, cm2, hf2, hv2⟩ := id a'.vars
  obtain ⟨v2, as2, g1, g2, g3, g4⟩ := hv2 y _ hlk
  obtain ⟨m, cm, hf, hv⟩ := hm
  have hfk := hf.keep k
  rw [Fm.det hf2 hfk y, hv] at g1
  cases g1
  obtain ⟨t0, tin, D2, e2, hRD'⟩ := g4 t rfl
  cases e2
  clear ho hz rr
  cases g2 with
  | @list _ vs' nn' _ as ho' hz rr' =>
  have ns : D ∉ as := Rd.noself ho' hz rr'
  have vlen : vs'.size = xs.length := by have := rr'.length; simpa using this
  refine wpAny_sized (wpAny_list_append_plain (items := vs') ⟨nn', ho'⟩ (fun h'' hpl hsb hsz => ?_) hz)
  obtain ⟨n2, ho2⟩ := hpl
  have kb : KeepB (fsOf Y.B.A) (fun b => b = D) h' h'' := KeepB.exact hsz fun b o nw e => hsb.extBut b o nw e
  have nTup : ∀ vs m, h'.get? D ≠ some (tupObj vs m) := fun vs m e => by
    rw [ho'] at e; have := congrArg (fun o : Option Obj => o.map (·.cls)) e; simp at this
  have mv : Moves Z Z h' h'' fun b => ¬ b = D := kb.moves a'.ok.fin fun b q _ => by subst q; exact nTup
  obtain ⟨R3, rx3, rg3, oth3, g3', in3, t3, D3⟩ := merged (rs := sl.regs) a'.regs rx nw hlk tin hlk' t0 hRD'
  have av : SVars Y.B.C Y.env Z R3 (killS t σ) h' := (a'.vars.map (σ' := killS t σ) (R' := R') (fun _ _ f => f) (fun z sl e => (killS_lookup e).1) (fun _ _ _ _ _ _ q => q) id).map (fun _ _ f => f) (fun _ _ e => e) (fun z sl e r hr b q => oth3 z sl e r hr b q) id
  have nOwn := (a'.regs.rin t D hRD').2
  have ab : SAt Y Z R3 (killS t σ) { s with heap := h'', toks := tk } := SAt.keepB (s := { s with heap := h', toks := tk }) ⟨a'.ok, a'.entry, av, rg3⟩ I kb fun b q => by
    subst q
    exact ⟨a'.regs.rnew t _ hRD' t0, nOwn, a'.ok.fin.not_seq ho' rfl, fun _ => nTup, (fun o vs c e hd => by have e' : h'.get? _ = some o := e; rw [ho'] at e'; cases e'; cases hd), fun z sl e i hi hR => (killS_lookup e).2 ((rg3.apart i t _ hR D3) ▸ hi)⟩
  refine hN _ h'' tk R3 hq ((Ke.ofKeep a.ok.fin k).trans rx ⟨kb.mono fun b _ q => .inr ⟨t, hlk', q ▸ hRD'⟩, fun b vs m _ e => kb.other b _ e (a'.ok.fin.not_seq e rfl) fun q => nTup vs m (q ▸ e)⟩) rx3 ⟨ab.ok, ab.entry, ?_, ab.regs⟩
  obtain ⟨m3, cm3, hf3, hv3⟩ := ab.vars
  refine ⟨m3, cm3, hf3, fun z sl' e => ?_⟩
  rw [setS_lookup] at e
  by_cases hzy : (z == y) = true
  · have := eq_of_beq hzy; subst this
    rw [if_pos hzy] at e; cases e
    have hf4 : Fm h'' Y.env m cm := ⟨let ⟨o, es, ep, ho, hd⟩ := hfk.ns; ⟨o, es, ep, hsb.extBut _ _ (fun q => nOwn (.inl q.symm)) ho, hd⟩, fun z c hz => let ⟨o, ho, hd⟩ := hfk.cell z c hz; ⟨o, hsb.extBut _ _ (fun q => nOwn (.inr ⟨z, q ▸ hz⟩)) ho, hd⟩, hf.apart⟩
    refine ⟨.ref D, D :: (as ++ (bs ++ [])), by rw [Fm.det hf3 hf4 z]; exact hv, ?_, fun b hb => ?_, fun t' ht' => by cases ht'; exact ⟨t0, t3, D, rfl, D3⟩⟩
    · refine Rd.list ho2 (by simp; rw [vlen]; rw [sizeLine_eq]; omega) ?_
      rw [Array.toList_push]
      exact (rr'.move mv fun b hb q => ns (q ▸ hb)).append (.cons (Rd.move mv rw' fun b hb q => let ⟨r, hr, hR⟩ := fp b hb; hct (a'.regs.apart r t _ (q ▸ hR) hRD' ▸ hr)) .nil)
    · rcases List.mem_cons.mp hb with rfl | hb
      · exact ⟨t, t3, D3⟩
      · rcases List.mem_append.mp hb with hb | hb
        · obtain ⟨r, hr, hR⟩ := g3 b (.tail _ hb)
          exact g3' r hr b hR
        · obtain ⟨r, hr, hR⟩ := fp b (by simpa using hb)
          exact in3 r hr b hR
  · rw [if_neg hzy] at e
    exact hv3 z sl' e

end
end Mine
end

section
set_option linter.unusedVariables false
namespace Mine
open PySem
variable {Z : Addr → Prop}

section
variable {Y : Sx} {R R' : Nat → Addr → Prop} {σ : Sg} {s : Shared} {lk : List Nat} {x : WXv} {wl : WLv} {Qw : Out → Prop} {Xw : Str → Prop} {Q : Flow → Shared → Prop} {E : Value → Shared → Prop}

/-- a comprehension whose list goes straight to a name -/
theorem run_AssignComp (O : CxOk Y.B.C) (S : Sound Y.B wl) (I : Inn Y) {y xn : Str} {py px pos cpos : Pos} {elt it : Expr} {ifs : List Expr} {scope : Scope} {ns : List Str} (a : SAt Y Z R σ s) (hst : storable Y.env.scope.names y = true)
    (h : wcompE Y.B.C.K Y.B.q wl Y.env.scope.names (rhoOf (pick σ ns)) elt scope xn px it ifs (fun r => Qw (.next (setS y (slotOf (freshOf σ lk) (regsOf (pick σ ns)) r) σ))) Xw)
    (hsw : swapsWith (.ListComp elt [⟨.Name xn px, it, ifs, 0⟩] scope cpos) (some (.Name y py)) pos.line Y.env = pure true) (hN : KN Y Z lk R s Qw Q) (hX : KX Y Z s Xw E) :
    wpAny Y.B.M Y.B.A (exec (.Assign [.Name y py] (.ListComp elt [⟨.Name xn px, it, ifs, 0⟩] scope cpos) pos) Y.env) Q E s := by
  have at_ := a.at I ns
  obtain ⟨hc, h⟩ := wif_elim h
  simp only [Bool.and_eq_true, Bool.not_eq_true', beq_iff_eq] at hc
  obtain ⟨⟨hq, hcs⟩, hkind⟩ := hc
  obtain ⟨c1, c2, c3, c4, c5⟩ := compScope_iff hcs
  rw [exec_Assign_Name_used _ _ _ _ hsw]
  refine wpAny_bind (wpAny_standAt (wpAny_bind ?_))
  show wpAny _ Y.B.A (do let _ ← comprehension (.ListComp elt [⟨.Name xn px, it, ifs, 0⟩] scope cpos) scope Y.env _ (newList []) false (eval it Y.env) (some (assign (.Name y py) Y.env))) _ _ s
  refine wpAny_bind (wpAny_mono (wpAny_comprehension_free (use := some (assign (.Name y py) Y.env)) (Q := fun _ s' => Q .next s') rfl (folded_plain S h) (closure_eq fun y hy e => I.eok.cells y.1 ((c4 y hy e).1)) hkind c3 ?_) (fun _ s' q => wpAny_pure (wpAny_pure q)) fun _ _ e => e)
  refine comp_use O S at_ (Nat.le_refl _) hq hcs hkind (RR := fun acc Ca => compPost Y.B.M Y.B.A _ (some (assign (.Name y py) Y.env)) _ acc Ca) h (fun all dd hdd hq D Ca h' tk m' as ys nn hD hCa hDC hns hl hsz rd fp fpn k => ?_) (hX.toX a I)
  show wpAny Y.B.M Y.B.A (assign (.Name y py) Y.env (.ref D)) _ _ _
  have rl : Rd Z h' (.ref D) (.list dd) (D :: as) := .list hl hsz rd
  have a' : SAt Y Z (bump R (freshOf σ lk) fun b => s.heap.objs.size ≤ b ∧ b < h'.objs.size ∧ b ≠ Ca) σ { s with heap := h', toks := tk } := a.grow I k (fun r hr => fresh_regs hr) fresh_pos (fun b hb => ⟨hb.1, hb.2.1⟩) fun b h => .inl h
  have rx : Rx lk R (bump R (freshOf σ lk) fun b => s.heap.objs.size ≤ b ∧ b < h'.objs.size ∧ b ≠ Ca) s.heap.objs.size := Rx.bump (fun r hr => fresh_lk hr) fun b hb => hb.1
  refine wpAny_assign_Name (store_sound a' I hst (slotOf_sound (r := (.dat (.list dd), all.all (·.2))) rl (fun b hb => (List.mem_cons.mp hb).elim (fun q => .inr (q ▸ hD)) (fp b)) fun b hb z => ⟨z, Rd.lt rl b hb, (List.mem_cons.mp hb).elim (fun q => q ▸ hDC) fun m => (fpn b m).2⟩) fun h'' tk'' kb tup a'' => ?_)
  have nOwn : ¬ Own Y.env Ca := fun q => absurd (a.old q) (Nat.not_lt.mpr hCa)
  obtain ⟨o, es, ep, ho, hd, hk1, hk2⟩ := hns
  obtain ⟨sl2, ho2⟩ := kb.slots Ca o ho nOwn
  have ne : ∀ b ob, s.heap.get? b = some ob → b ≠ Ca := fun b ob e q => absurd (Heap.lt_size e) (Nat.not_lt.mpr (q ▸ hCa))
  have kf : KeepB (fsOf Y.B.A) (Own Y.env) s.heap h'' := (KeepB.ofKeep k).trans kb
  refine ⟨m', ⟨_, es, ep, ho2, hd, hk1, hk2⟩, fun h₃ hs₃ => hN _ h₃ tk'' _ hq ⟨⟨Nat.le_trans kf.size (Nat.le_of_eq hs₃.1.symm), fun b ob e nf nw => hs₃.extBut b _ (ne b ob e) (kf.other b ob e nf fun q => nw (.inl q)), fun b ob e nw => let ⟨sl3, e3⟩ := kf.slots b ob e fun q => nw (.inl q); ⟨sl3, hs₃.extBut b _ (ne b ob e) e3⟩⟩, fun b vs m _ e => hs₃.extBut b _ (ne b _ e) (tup b vs m (k.other b _ e (a.ok.fin.not_seq e rfl)))⟩ rx ?_⟩
  refine a''.keepB I (W := fun b => b = Ca) (KeepB.exact (Nat.le_of_eq hs₃.1.symm) fun b ob nw e => hs₃.extBut b ob nw e) fun b hb => ?_
  subst hb
  refine ⟨Nat.le_trans a.entry.size hCa, nOwn, fun m => ?_, fun _ vs m e => ?_, fun ob vs c e hd' => ?_, fun z sl _ i _ hR => hR.elim (fun q => q.2.2.2 rfl) fun q => absurd (a.regs.rin i _ q.2).1 (Nat.not_lt.mpr hCa)⟩
  · obtain ⟨_, _, _, hob, _⟩ := a.ok.fin _ m
    exact ne _ _ hob rfl
  · have e' : h''.get? _ = _ := e
    rw [ho2] at e'
    have := congrArg (fun o : Option Obj => o.map (·.data)) e'
    simp [hd] at this
  · have e' : h''.get? _ = _ := e
    rw [ho2] at e'; cases e'
    have hd2 : o.data = _ := hd'
    rw [hd] at hd2; cases hd2

theorem swaps_other {env : Env} {e : Expr} {y : Str} {py : Pos} {l : Nat} (ho : oddComp e = false) (hl : ∀ elt gens scope pos, e ≠ .ListComp elt gens scope pos) : swapsWith e (some (.Name y py)) l env = pure false := by
  cases e <;> first | rfl | (simp [oddComp] at ho; done) | exact absurd rfl (hl _ _ _ _)

theorem run_AssignAny (O : CxOk Y.B.C) (Fn : FnsOk Y.B) (S : Sound Y.B wl) (I : Inn Y) {y : Str} {py pos : Pos} {e : Expr} (a : SAt Y Z R σ s) (hst : storable Y.env.scope.names y = true) (ho : oddComp e = false)
    (h : wevS (wstep Y.B.C.K Y.B.q wl) Y.env.scope.names lk σ e (fun sl => Qw (.next (setS y sl σ))) Xw) (hN : KN Y Z lk R s Qw Q) (hX : KX Y Z s Xw E) : wpAny Y.B.M Y.B.A (exec (.Assign [.Name y py] e pos) Y.env) Q E s := by
  have S1 : Sound Y.B (wstep Y.B.C.K Y.B.q wl) := ⟨fun _ _ _ _ _ _ h => h, fun _ _ _ _ _ _ _ h => h, fun hN h at_ hQ hE => step_ev O Fn S at_ hN h hQ hE, fun h at_ hQ hE => step_cond S at_ h hQ hE⟩
  by_cases hl : ∃ elt gens scope cp, e = .ListComp elt gens scope cp
  · obtain ⟨elt, gens, scope, cp, rfl⟩ := hl
    obtain ⟨b, hb⟩ : ∃ b, swapsWith (.ListComp elt gens scope cp) (some (.Name y py)) pos.line Y.env = pure b := ⟨_, rfl⟩
    cases b with
    | false => exact run_Assign S1 I a hst h hb hN hX
    | true =>
      obtain ⟨⟨xn, px, it, ifs⟩, hc, h⟩ := wopt_elim h
      cases compOf_eq hc
      exact run_AssignComp O S I a hst h hb hN hX
  · exact run_Assign S1 I a hst h (swaps_other ho fun a b c d h => hl ⟨a, b, c, d, h⟩) hN hX

end
end Mine
end

section
set_option linter.unusedVariables false
namespace Mine
open PySem
variable {Z : Addr → Prop}

/-- all but the records of exceptions and the frames' slots stands -/
structure NoteK (fs : List Addr) (hB h h' : Heap) : Prop where
  size : h.objs.size ≤ h'.objs.size
  nf : ∀ b o, h.get? b = some o → (∀ vs, o.data ≠ .fields vs) → ∃ sl, h'.get? b = some { o with slots := sl }
  ex : ∀ b o, h.get? b = some o → b ∉ fs → ((∀ vs, o.data ≠ .fields vs) ∨ hB.get? b ≠ none) → h'.get? b = some o
theorem NoteK.refl {fs : List Addr} {hB h : Heap} : NoteK fs hB h h := ⟨Nat.le_refl _, fun _ o e _ => ⟨o.slots, e⟩, fun _ _ e _ _ => e⟩
theorem NoteK.trans {fs : List Addr} {hB h h' h'' : Heap} (x : NoteK fs hB h h') (y : NoteK fs hB h' h'') : NoteK fs hB h h'' :=
  ⟨Nat.le_trans x.size y.size, fun b o e hn => let ⟨_, e1⟩ := x.nf b o e hn; let ⟨s2, e2⟩ := y.nf b _ e1 hn; ⟨s2, e2⟩, fun b o e nf h => y.ex b o (x.ex b o e nf h) nf h⟩
theorem NoteK.keep {fs gs : List Addr} {hB h h' : Heap} (x : NoteK fs hB h h') (k : Keep gs hB h) (hs : ∀ b ∈ fs, hB.get? b ≠ none → b ∈ gs) (F : FramesIn gs h) : Keep gs hB h' := by
  have ne : ∀ {b o}, hB.get? b = some o → hB.get? b ≠ none := fun e q => by rw [e] at q; cases q
  refine ⟨Nat.le_trans k.size x.size, fun b o e n => x.ex b o (k.other b o e n) (fun m => n (hs b m (ne e))) (.inr (ne e)), fun b o e => ?_⟩
  by_cases hb : b ∈ gs
  · obtain ⟨s1, e1⟩ := k.slots b o e
    obtain ⟨o', es, ep, ho', hd'⟩ := F b hb
    have : o'.data = o.data := by rw [e1] at ho'; cases ho'; rfl
    obtain ⟨s2, e2⟩ := x.nf b _ e1 fun vs q => by
      have q' : o.data = _ := q
      rw [← this, hd'] at q'; cases q'
    exact ⟨s2, e2⟩
  · exact ⟨o.slots, x.ex b o (k.other b o e hb) (fun m => hb (hs b m (ne e))) (.inr (ne e))⟩
theorem dict_mapFields (o : Obj) (f) : (o.mapFields f).dict = o.dict := by
  obtain ⟨c, d, dt, sl⟩ := o; cases dt <;> rfl
/-- an exception on its way, with its row -/
inductive FlyT (cls : Str → Addr) (h₀ h' : Heap) (L : Option Addr) (c : Str) (e : Value) : Prop
  | mk (a : Addr) (oe : Obj) (vs : Array Value) (e1 : e = .ref a) (n : h₀.get? a = none) (ho : h'.get? a = some oe) (dn : oe.dict = none) (hc : oe.cls = .ref (cls c)) (hd : oe.data = .fields vs) (row : RowAt h₀ h' L a vs[1]?)
theorem FlyT.fly {C : Str → Addr} {h₀ h' : Heap} {L : Option Addr} {c : Str} {e : Value} (x : FlyT C h₀ h' L c e) : Fly C h₀ h' L c e :=
  let ⟨a, oe, vs, h1, h2, h3, hdn, h4, h5, h6⟩ := x; ⟨a, oe, vs, h1, h2, h3, hdn, h4, h5, .inr h6⟩

section
variable {X : Bx} {Y : Sx} {env : Env} {hB : Heap} {R R' : Nat → Addr → Prop} {σ : Sg} {s : Shared} {lk : List Nat} {E : Value → Shared → Prop} {Q : Unit → Shared → Prop}

theorem Okk.note {h h' : Heap} (x : Okk X env.frame Z h) (k : NoteK (fsOf X.A) hB h h') (st : X.C.hb.StaysIn hB) : Okk X env.frame Z h' :=
  x.frames (fun b hb => let ⟨o, es, ep, ho, hd⟩ := x.fin b hb; let ⟨_, e⟩ := k.nf b o ho (fun vs q => by rw [hd] at q; cases q); ⟨_, es, ep, e, hd⟩) (fun b o e => k.ex b o (x.stays b o e) (x.notBase e) (.inr (by rw [st b o e]; intro q; cases q))) k.size

/-- a traceback's row is written -/
theorem newEntry_note {outer : List Env} {L e : Addr} {oe : Obj} {vs : Array Value} {head : Value} {hadNext : Bool} (hfr : X.A.frames = some (env :: outer)) (hl : s.heap.FunFrames X.C.hb (env :: outer)) (hf : env.frame = some L)
    (he : s.heap.get? e = some oe) (hd : oe.data = .fields vs) (hsz : 1 < vs.size) (hen : hB.get? e = none)
    (hQ : ∀ h' T oT ts oe', NoteK (fsOf X.A) hB s.heap h' → h'.get? e = some oe' → (oe'.cls = oe.cls ∧ oe'.dict = oe.dict) → oe'.data = .fields (vs.setIfInBounds 1 (.ref T)) → s.heap.objs.size ≤ T → h'.get? T = some oT → oT.data = .fields ts → ts[3]? = some (rawInt L) → Q () { s with heap := h' }) :
    wpAny X.M X.A (do let a ← frameOf env; let pl ← entryPlaceOf L hadNext; let b ← EntryCells.newEntry head a .none (rawInt L) .none pl; setField (.ref e) 1 b) Q E s := by
  have hfs : fsOf X.A = (env :: outer).filterMap (·.frame) := by unfold fsOf; rw [hfr]; rfl
  have hene : e ∉ (env :: outer).filterMap (·.frame) := fun hm => by
    obtain ⟨_, o, ho, hnf⟩ := hl.mem hm
    rw [he] at ho; injection ho with ho; subst ho; exact hnf vs hd
  refine wpAny_bind (wpAny_frameOf_fun hfr hl hf fun h₁ hs₁ => ?_)
  refine wpAny_bind (wpAny_entryPlaceOf fun pl hpl => ?_)
  unfold EntryCells.newEntry newFields
  refine wpAny_bind (wpAny_newObj_type ?_ (hpl.sizeOk5 _ _ _ _ _))
  have he₁ : h₁.get? e = some oe := (hs₁.2.1 e hene).trans he
  generalize hT : ({ cls := .type "traceback", dict := none, data := .fields ([head, .ref L, .none, rawInt L, .none] ++ (if pl.isEmpty then List.replicate 6 Value.none else pl)).toArray } : Obj) = oT
  have hdT : oT.data = .fields ([head, .ref L, .none, rawInt L, .none] ++ (if pl.isEmpty then List.replicate 6 Value.none else pl)).toArray := by rw [← hT]
  have he₂ := Heap.get?_push_of_some (h := h₁) oT he₁
  have hTe : h₁.objs.size ≠ e := Nat.ne_of_gt (Heap.lt_size he₁)
  refine wpAny_setField he₂ hd hsz ?_
  have hd₃ := Obj.data_mapFields hd (·.setIfInBounds 1 (Value.ref h₁.objs.size))
  have he₃ := Heap.get?_update_self (Obj.mapFields (·.setIfInBounds 1 (Value.ref h₁.objs.size))) he₂ (Obj.isFreed_of_fields hd₃)
  have hT₃ : ((h₁.push oT).update e (Obj.mapFields (·.setIfInBounds 1 (Value.ref h₁.objs.size)))).get? h₁.objs.size = some oT :=
    (Heap.get?_update_other (h₁.push oT) (Obj.mapFields (·.setIfInBounds 1 (Value.ref h₁.objs.size))) (Ne.symm hTe)).trans (Heap.get?_push_size h₁ (Obj.isFreed_of_fields hdT))
  have keep : ∀ b o, b ≠ e → h₁.get? b = some o → ((h₁.push oT).update e (Obj.mapFields (·.setIfInBounds 1 (Value.ref h₁.objs.size)))).get? b = some o := fun b o hbe hb => by
    rw [Heap.get?_update_other _ _ (Ne.symm hbe)]
    exact Heap.get?_push_of_some _ hb
  have noE : ∀ b o, s.heap.get? b = some o → (∀ vs, o.data ≠ .fields vs) → b ≠ e := fun b o hb hnf q => by
    rw [q, he] at hb; injection hb with hb; subst hb; exact hnf vs hd
  refine hQ _ h₁.objs.size oT _ _ ⟨?_, fun b o hb hnf => ?_, fun b o hb nf h => ?_⟩ he₃ ⟨Obj.cls_mapFields _ _, dict_mapFields _ _⟩ hd₃ (by rw [hs₁.1]; exact Nat.le_refl _) hT₃ hdT (by rcases hpl with rfl | ⟨_, _, _, _, _, _, _, rfl⟩ <;> simp)
  · rw [Heap.size_after_update, Heap.size_push, hs₁.1]; exact Nat.le_succ _
  · obtain ⟨sl, e1⟩ := hs₁.2.2 b o hb
    exact ⟨sl, keep b _ (noE b o hb hnf) e1⟩
  · rw [hfs] at nf
    refine keep b o ?_ ((hs₁.2.1 b nf).trans hb)
    rcases h with h | h
    · exact noE b o hb h
    · exact fun q => h (by rw [q]; exact hen)

/-- an exception passes the frame's note -/
theorem noteFrame_sound (I : Inn Y) (ok : Okk Y.B Y.env.frame Z s.heap) {c : Str} {ev : Value} (fl : Fly Y.B.C.cls hB s.heap Y.env.frame c ev) {gs : List Addr} (kB : Keep gs hB s.heap)
    (hQ : ∀ h', NoteK (fsOf Y.B.A) hB s.heap h' → FlyT Y.B.C.cls hB h' Y.env.frame c ev → Q () { s with heap := h' }) : wpAny Y.B.M Y.B.A (noteFrame ev Y.env) Q E s := by
  obtain ⟨outer, hfr, _⟩ := I.frames
  have hl : s.heap.FunFrames Y.B.C.hb (Y.env :: outer) := by
    obtain ⟨fenv, outer', hA, _, hf⟩ := ok.fr
    rw [hfr] at hA; cases hA; exact hf
  have hf := I.frame
  have nB : ∀ b, s.heap.objs.size ≤ b → hB.get? b = none := fun b hb => by
    cases e : hB.get? b with
    | none => rfl
    | some o => obtain ⟨sl, e'⟩ := kB.slots b o e; exact absurd (Heap.lt_size e') (Nat.not_lt.mpr hb)
  obtain ⟨e, oe, vs, rfl, hen, he, hdn, hc, hd, h6⟩ := fl
  unfold noteFrame
  simp only [hf]
  rcases h6 with h1 | ⟨T, oT, ts, x, h1, hnT, hTe, hT, hdT, h3, hrow⟩
  · refine wpAny_bind (wpAny_field he hd h1 ?_)
    rw [if_neg (by decide)]
    refine newEntry_note (hB := hB) hfr hl hf he hd (Array.getElem?_eq_some_iff.mp h1).1 hen fun h' T oT ts oe' nk g1 g2 g3 g4 g5 g6 g7 => hQ h' nk ?_
    have hs1 := (Array.getElem?_eq_some_iff.mp h1).1
    exact ⟨e, oe', _, rfl, hen, g1, g2.2.trans hdn, g2.1.trans hc, g3, T, oT, ts, _, by simp [hs1], nB T g4, fun q => by subst q; exact absurd (Heap.lt_size he) (Nat.not_lt.mpr g4), g5, g6, g7, .inr ⟨_, hf, rfl⟩⟩
  · refine wpAny_bind (wpAny_field he hd h1 ?_)
    rw [if_pos (show (Value.ref T != Value.none) = true from by simp)]
    refine wpAny_bind (wpAny_field hT hdT h3 ?_)
    rcases hrow with rfl | ⟨l, hl', rfl⟩
    · rw [if_neg (show ¬ ((Value.none == rawInt Y.env.locals) = true) from by simp [rawInt])]
      refine wpAny_bind (wpAny_setField hT hdT (Array.getElem?_eq_some_iff.mp h3).1 ?_)
      have other : ∀ b, b ≠ T → (s.heap.update T (Obj.mapFields (·.setIfInBounds 3 Value.none))).get? b = s.heap.get? b := fun b hb => Heap.get?_update_other _ _ (Ne.symm hb)
      have noT : ∀ b o, s.heap.get? b = some o → (∀ vs, o.data ≠ .fields vs) → b ≠ T := fun b o hb hnf q => by
        rw [q, hT] at hb; injection hb with hb; subst hb; exact hnf ts hdT
      have nk1 : NoteK (fsOf Y.B.A) hB s.heap (s.heap.update T (Obj.mapFields (·.setIfInBounds 3 Value.none))) := ⟨by rw [Heap.size_after_update]; exact Nat.le_refl _,
        fun b o hb hnf => ⟨o.slots, (other b (noT b o hb hnf)).trans hb⟩, fun b o hb nf h => (other b (by
          rcases h with h | h
          · exact noT b o hb h
          · exact fun q => h (by rw [q]; exact hnT))).trans hb⟩
      have hs1 := (Array.getElem?_eq_some_iff.mp h1).1
      refine newEntry_note (hB := hB) hfr (FunFrames_in hl fun b hb => ?_) hf ((other e (Ne.symm hTe)).trans he) hd hs1 hen fun h' T' oT' ts' oe' nk g1 g2 g3 g4 g5 g6 g7 => hQ h' (nk1.trans nk) ?_
      · obtain ⟨o, es, ep, ho, hd'⟩ := ok.fin b (by unfold fsOf; rw [hfr]; exact hb)
        exact ⟨o, es, ep, (other b (noT b o ho fun vs q => by rw [hd'] at q; cases q)).trans ho, hd'⟩
      · rw [Heap.size_after_update] at g4
        exact ⟨e, oe', _, rfl, hen, g1, g2.2.trans hdn, g2.1.trans hc, g3, T', oT', ts', _, by simp [hs1], nB T' g4, fun q => by subst q; exact absurd (Heap.lt_size he) (Nat.not_lt.mpr g4), g5, g6, g7, .inr ⟨_, hf, rfl⟩⟩
    · have : l = Y.env.locals := by rw [hf] at hl'; cases hl'; rfl
      subst this
      rw [if_pos (by simp)]
      exact wpAny_pure (hQ _ NoteK.refl ⟨e, oe, vs, rfl, hen, he, hdn, hc, hd, T, oT, ts, _, h1, hnT, hTe, hT, hdT, h3, .inr ⟨_, hf, rfl⟩⟩)

/-- where it flies is written -/
theorem setFlight_sound {c : Str} {ev : Value} {L L' : Option Addr} (fl : FlyT X.C.cls hB s.heap L c ev)
    (hQ : ∀ h', NoteK (fsOf X.A) hB s.heap h' → FlyT X.C.cls hB h' L' c ev → Q () { s with heap := h' }) : wpAny X.M X.A (setFlight ev L') Q E s := by
  obtain ⟨e, oe, vs, rfl, hen, he, hdn, hc, hd, T, oT, ts, x, h1, hnT, hTe, hT, hdT, h3, hrow⟩ := fl
  unfold setFlight
  refine wpAny_bind (wpAny_field he hd h1 ?_)
  rw [if_pos (show (Value.ref T != Value.none) = true from by simp)]
  have hs3 := (Array.getElem?_eq_some_iff.mp h3).1
  refine wpAny_setField hT hdT hs3 (hQ _ ⟨by rw [Heap.size_after_update]; exact Nat.le_refl _, fun b o hb hnf => ⟨o.slots, (Heap.get?_update_other _ _ fun q => ?_).trans hb⟩, fun b o hb nf h => (Heap.get?_update_other _ _ fun q => ?_).trans hb⟩ ?_)
  · rw [← q, hT] at hb; injection hb with hb; subst hb; exact hnf ts hdT
  · rcases h with h | h
    · rw [← q, hT] at hb; injection hb with hb; subst hb; exact h ts hdT
    · exact h (by rw [← q]; exact hnT)
  · have hd₃ := Obj.data_mapFields hdT (·.setIfInBounds 3 (L'.elim Value.none fun f => rawInt f))
    refine ⟨e, oe, vs, rfl, hen, (Heap.get?_update_other _ _ hTe).trans he, hdn, hc, hd, T, _, _, L'.elim Value.none fun f => rawInt f, h1, hnT, hTe, Heap.get?_update_self _ hT (Obj.isFreed_of_fields hd₃), hd₃, by simp [hs3], ?_⟩
    cases L' with
    | none => exact .inl rfl
    | some l => exact .inr ⟨l, rfl, rfl⟩

/-- an exception that comes back from a block of the frame -/
theorem cameBack_sound {c : Str} {ev : Value} (fl : FlyT X.C.cls hB s.heap env.frame c ev) (hE : ∀ h', NoteK (fsOf X.A) hB s.heap h' → FlyT X.C.cls hB h' env.frame c ev → E ev { s with heap := h' }) : cameBackBy X.M X.A env E ev s := by
  unfold cameBackBy
  have fl0 := fl
  obtain ⟨e, oe, vs, rfl, hen, he, hdn, hc, hd, T, oT, ts, x, h1, _⟩ := fl
  refine wpAny_bind (wpAny_field he hd h1 ?_)
  rw [if_neg (show ¬ ((Value.ref T == Value.none) = true) from by simp)]
  exact setFlight_sound fl0 hE

end
end Mine
end

section
set_option linter.unusedVariables false
namespace Mine
open PySem
variable {Z : Addr → Prop}

section
variable {Y : Sx} {R R' : Nat → Addr → Prop} {σ : Sg} {s : Shared} {lk : List Nat} {x : WXv} {wl : WLv} {Qw : Out → Prop} {Xw : Str → Prop} {Q : Flow → Shared → Prop} {E : Value → Shared → Prop}

/-- a loop ends: less is barred -/
theorem SAt.lessZ {Z' : Addr → Prop} (a : SAt Y Z' R σ s) (hz : ∀ b, Z b → Z' b) : SAt Y Z R σ s :=
  ⟨⟨a.ok.fr, a.ok.fin, a.ok.stays, a.ok.hand, a.ok.depth, a.ok.units, fun b hb => a.ok.zin b (hz b hb)⟩, a.entry, a.vars.map (fun _ _ f => f) (fun _ _ e => e) (fun _ _ _ _ _ _ q => q) (fun r => r.moves (bar_moves fun b _ zb => hz b zb) (fun b o vs ho _ _ => ⟨o.slots, ho⟩) fun _ _ => trivial), a.regs⟩
theorem BV.move {sf : List Addr} {h h' : Heap} {S : Addr → Prop} (mv : Moves Z Z h h' S) (hw : ∀ a ∈ sf, S a) {βv : List (Str × Value)} {β : Rho} (b : BV Z h sf βv β) : BV Z h' sf βv β := by
  induction b with
  | nil => exact .nil
  | cons r f _ ih => exact .cons (r.move mv fun a ha => hw a (f a ha)) f ih
/-- the names of a target get their values -/
theorem stores_sound (I : Inn Y) {sf : List Addr} {rs : List Nat} (hsf : ∀ a ∈ sf, ∃ r ∈ rs, R r a) {Q : Unit → Shared → Prop} : ∀ {βv : List (Str × Value)} {β : Rho} {σ : Sg} {s : Shared}, BV Z s.heap sf βv β → (∀ p ∈ β, storable Y.env.scope.names p.1 = true) → SAt Y Z R σ s →
    (∀ h' tk, KeepB (fsOf Y.B.A) (Own Y.env) s.heap h' → (∀ a vs m, s.heap.get? a = some (tupObj vs m) → h'.get? a = some (tupObj vs m)) → SAt Y Z R (setAll β rs σ) { s with heap := h', toks := tk } → Q () { s with heap := h', toks := tk }) → Stores Y.B Y.env βv Q E s
  | [], β, σ, s, b, hst, a, hQ => by cases b; exact hQ s.heap s.toks KeepB.refl (fun _ _ _ e => e) a
  | (y, v) :: r, β, σ, s, b, hst, a, hQ => by
    cases b with
    | @cons _ _ d as _ t rv f b =>
    refine store_sound a I (hst (y, .dat d) (.head _)) (sl := ⟨.dat d, if V.flat (.dat d) then [] else rs, none⟩) ⟨as, rv, fun c hc => ?_, fun t ht => nomatch ht⟩ fun h' tk kb tup a' => ?_
    · split
      · rename_i hf
        rw [Rd.flat_nil rv hf] at hc; cases hc
      · exact hsf c (f c hc)
    · exact stores_sound I hsf (b.move (kb.moves a.ok.fin fun c o _ vs m => a.ownTup o vs m) fun c hc => let ⟨r, _, hR⟩ := hsf c hc; (a.regs.rin r c hR).2) (fun p hp => hst p (.tail _ hp)) a' fun h'' tk' kb' tup' a'' => hQ h'' tk' (kb.trans kb') (fun c vs m e => tup' c vs m (tup c vs m e)) a''
theorem targets_storable {sc : Sc} : ∀ (es : List Expr) (ds : List PyData) (β : Rho), (es.all fun e => match e with | .Name x _ => storable sc x | _ => false) = true → targets es ds = some β → ∀ p ∈ β, storable sc p.1 = true
  | [], ds, β, _, h, p, hp => by cases ds <;> cases h; cases hp
  | e :: r, [], β, ha, h, p, hp => by cases h
  | e :: r, d :: ds, β, ha, h, p, hp => by
    unfold targets at h
    split at h
    · rename_i x hx
      cases nameOf_eq hx
      obtain ⟨β', h', rfl⟩ := Option.map_eq_some_iff.mp h
      rw [List.all_cons, Bool.and_eq_true] at ha
      exact (List.mem_cons.mp hp).elim (fun q => q ▸ ha.1) (targets_storable r ds β' ha.2 h' p)
    · cases h
theorem bindT_storable {tgt : Expr} {d : PyData} {β : Rho} {sc : Sc} (ht : tgtOk sc tgt = true) (h : bindT tgt d = some β) : ∀ p ∈ β, storable sc p.1 = true := by
  unfold bindT at h
  split at h
  · cases h
    intro p hp
    cases List.mem_singleton.mp hp
    exact ht
  · exact targets_storable _ _ _ ht h
  · cases h
theorem HK.ke {sf : List Addr} {hs h h' : Heap} (k : HK Z hs sf h) (F : FramesIn (fsOf Y.B.A) h) (ke : Ke Y Z lk R h h') (h1 : ∀ a ∈ sf, ¬ (Own Y.env a ∨ ∃ r, r ∉ lk ∧ R r a)) : HK Z hs sf h' :=
  ⟨fun a vs m nz e => ⟨nz, ke.tup a vs m nz (k.tup a vs m nz e).2⟩, fun a ha vs m e => let e' := k.lst a ha vs m e; ke.kb.other a _ e' (F.not_seq e' rfl) (h1 a ha), fun a ha o n e hd => let ⟨_, e'⟩ := k.dct a ha o n e hd; let ⟨sl2, e2⟩ := ke.kb.slots a _ e' (h1 a ha); ⟨sl2, e2⟩⟩
theorem Inn.notOld (I : Inn Y) : ∀ b ∈ fsOf Y.B.A, Y.h₀.get? b ≠ none → b ∈ Y.fs₀ := fun b hb hn => by
  rw [I.fs] at hb
  rcases List.mem_cons.mp hb with rfl | hb
  · exfalso
    cases e : Y.h₀.get? Y.env.locals with
    | none => exact hn e
    | some o => exact absurd (Heap.lt_size e) (Nat.not_lt.mpr I.lnew)
  · exact hb
theorem Inn.fin0 (I : Inn Y) {h : Heap} (F : FramesIn (fsOf Y.B.A) h) : FramesIn Y.fs₀ h := fun b hb => F b (by rw [I.fs]; exact .tail _ hb)
/-- an exception leaves a loop of the frame -/
theorem loop_raises (I : Inn Y) {Z' : Addr → Prop} (hz : ∀ b, Z b → Z' b) (hX : KX Y Z s Xw E) {c : Str} {e : Value} {h' : Heap} {tk : Nat} (hc : Xw c) (fl : Flies Y Z' c e h') : notedBy Y.B.M Y.B.A Y.env (fun e s' => cameBackBy Y.B.M Y.B.A Y.env E e s') e { s with heap := h', toks := tk } := by
  obtain ⟨k, ok, fl⟩ := fl
  refine noteFrame_sound (hB := Y.h₀) (gs := Y.fs₀) I (s := { s with heap := h', toks := tk }) ok fl k fun h₂ nk fl₂ => ?_
  refine cameBack_sound (X := Y.B) (hB := Y.h₀) fl₂ fun h₃ nk₃ fl₃ => ?_
  have nk' := nk.trans nk₃
  have := ok.note nk' I.hb0
  exact hX c e h₃ tk hc ⟨nk'.keep k I.notOld (I.fin0 ok.fin), ⟨this.fr, this.fin, this.stays, this.hand, this.depth, this.units, fun b hb => this.zin b (hz b hb)⟩, fl₃.fly⟩

/-- a for's loop: what stands ahead of the turn i -/
inductive FJ (Y : Sx) (Z Z' : Addr → Prop) (lk lk' : List Nat) (R R₁ : Nat → Addr → Prop) (s : Shared) (h₂ : Heap) (sf : List Addr) (St : Nat → Heap → Prop) (T : Sg → List PyData → Prop) (ds : List PyData) (k : Nat) (s' : Shared) : Prop
  | mk (h : Heap) (tk : Nat) (R' : Nat → Addr → Prop) (σ' : Sg) (i : Nat) (e : s' = { s with heap := h, toks := tk }) (st : St i h) (hk : HK Z' h₂ sf h) (a : SAt Y Z' R' σ' { s with heap := h, toks := tk }) (rx : Rx lk' R₁ R' h₂.objs.size) (ke : Ke Y Z lk R s.heap h) (l : h₂.objs.size ≤ h.objs.size) (hr : T σ' (ds.drop i)) (hi : i ≤ ds.length) (hk : k = ds.length + 1 - i)

theorem run_For (O : CxOk Y.B.C) (S : Sound Y.B wl) (SX : SoundX Y x) (I : Inn Y) {tgt it : Expr} {body : List Stmt} {pos : Pos} (a : SAt Y Z R σ s) (hq : Y.B.q = false) (htg : tgtOk Y.env.scope.names tgt = true) {u : Nat} {ns : List Str} (hu : freshOf σ lk = u)
    (h : witer Y.B.C.K wl Y.env.scope.names (rhoOf (pick σ ns)) (isTup tgt) it (fun ds => wturns x (u :: regsOf (pick σ ns) ++ lk) (u :: regsOf (pick σ ns)) (σ.map (·.1)) tgt body σ ds Qw Xw) Xw)
    (hN : KN Y Z lk R s Qw Q) (hR : KR Y Z s Qw Q) (hX : KX Y Z s Xw E) : wpAny Y.B.M Y.B.A (exec (.For tgt it body [] pos) Y.env) Q E s := by
  have htn : isTup tgt = false → ∃ x p, tgt = .Name x p := by
    cases tgt <;> first | (intro _; exact ⟨_, _, rfl⟩) | (intro h; first | cases h; done | (simp [tgtOk] at htg))
  have htt : isTup tgt = true → ∃ es k p, tgt = .Tuple es k p := by
    cases tgt <;> first | (intro _; exact ⟨_, _, _, rfl⟩) | (intro h; cases h)
  have hpr : ∀ r ∈ regsOf (pick σ ns), r ∈ regsOf σ := fun r hr => regs_pick hr
  refine wpAny_For (iter_sound O S (a.at I ns) hq (Nat.le_refl _) htn htt h ?_ (hX.toX a I)) (folded_plain S h)
  intro ds h₂ tk₂ J Z' sf wr St hds k₂ itr zz zz' wrn sfP dsz
  generalize hlk' : u :: regsOf (pick σ ns) ++ lk = lk' at hds
  generalize hrs : u :: regsOf (pick σ ns) = rs at hds
  have hu0 : u ≠ 0 := hu ▸ fresh_pos
  have hul : ∀ r ∈ lk, r ≠ u := fun r hr => hu ▸ fresh_lk hr
  have hus : ∀ r ∈ regsOf σ, r ≠ u := fun r hr => hu ▸ fresh_regs hr
  have lkin : ∀ r ∈ lk, r ∈ lk' := fun r hr => by subst hlk'; exact List.mem_append_right _ hr
  have rsin : ∀ r ∈ rs, r ∈ lk' := fun r hr => by subst hlk'; rw [hrs]; exact List.mem_append_left _ hr
  generalize hR₁ : (bump R u fun b => s.heap.objs.size ≤ b ∧ b < h₂.objs.size ∧ b ∉ wr) = R₁
  have a₁ : SAt Y Z' R₁ σ { s with heap := h₂, toks := tk₂ } := hR₁ ▸ a.grow I k₂ hus hu0 (fun b hb => ⟨hb.1, hb.2.1⟩) zz'
  have back : ∀ {R' r b}, Rx lk' R₁ R' h₂.objs.size → b < s.heap.objs.size → R' r b → R r b := fun rx l hR => by
    have := rx.back _ _ (Nat.lt_of_lt_of_le l k₂.size) hR
    subst hR₁
    exact this.elim (fun q => absurd l (Nat.not_lt.mpr q.2.1)) fun q => q.2
  have nwR : ∀ {R'}, Rx lk' R₁ R' h₂.objs.size → ∀ b ∈ wr, ∀ i, ¬ R' i b := fun rx b hb i hR => by
    have := rx.back i b (wrn b hb).2 hR
    subst hR₁
    exact this.elim (fun q => q.2.2.2 hb) fun q => absurd (a.regs.rin i b q.2).1 (Nat.not_lt.mpr (wrn b hb).1)
  have nwO : ∀ b ∈ wr, ¬ Own Y.env b := fun b hb o => absurd (a.old o) (Nat.not_lt.mpr (wrn b hb).1)
  have nwF : ∀ b ∈ wr, b ∉ fsOf Y.B.A := fun b hb m => by
    obtain ⟨o, _, _, ho, _⟩ := a.ok.fin b m
    exact absurd (Heap.lt_size ho) (Nat.not_lt.mpr (wrn b hb).1)
  have sfR : ∀ {R'}, Rx lk' R₁ R' h₂.objs.size → ∀ b ∈ sf, ∃ r ∈ rs, R' r b := fun {R'} rx b hb => by
    obtain ⟨h1, h2⟩ := sfP b hb
    rcases h1 with ⟨r, hr, hR⟩ | h1
    · have m : r ∈ rs := by subst hrs; exact .tail _ hr
      exact ⟨r, m, rx.fwd r (rsin r m) b (by subst hR₁; exact .inr ⟨hus r (hpr r hr), hR⟩)⟩
    · have m : u ∈ rs := by subst hrs; exact .head _
      exact ⟨u, m, rx.fwd u (rsin u m) b (by subst hR₁; exact .inl ⟨rfl, h1, h2, itr.sfwr b hb⟩)⟩
  refine codeAny_forLoop_any (FJ Y Z Z' lk lk' R R₁ s h₂ sf St (fun σ' ds => wturns x lk' rs (σ.map (·.1)) tgt body σ' ds Qw Xw) ds) ?_ (ds.length + 1) ⟨h₂, tk₂, R₁, σ, 0, rfl, itr.start, HK.refl _ _, a₁, Rx.refl, Ke.ofKeep a.ok.fin k₂, Nat.le_refl _, by rw [List.drop_zero]; exact hds, Nat.zero_le _, rfl⟩
  rintro k s' ⟨h, tk', R', σ', i, rfl, st, hk, a', rx, ke, hsz2, hrest, hi, rfl⟩
  -- the iterator's own writes
  have own_step : ∀ {h₃ : Heap} {tk₃ : Nat}, But wr h h₃ → SAt Y Z' R' σ' { s with heap := h₃, toks := tk₃ } ∧ Ke Y Z lk R s.heap h₃ := fun {h₃ tk₃} b₃ => by
    have nw : ∀ b o, s.heap.get? b = some o → b ∉ wr := fun b o e m => absurd (Heap.lt_size e) (Nat.not_lt.mpr (wrn b m).1)
    refine ⟨SAt.keepB (s := { s with heap := h, toks := tk' }) a' I (W := fun b => b ∈ wr) (KeepB.exact b₃.size fun b o nw e => b₃.keep b o nw e) fun b hb => ⟨Nat.le_trans a.entry.size (wrn b hb).1, nwO b hb, nwF b hb, fun nz vs m e => (itr.wcls i h st).notup hb nz e, (fun o vs c e _ hc => by
      obtain ⟨o', T, ho', hT, _⟩ := itr.wcls i h st b hb
      have e' : h.get? b = some o := e
      rw [ho'] at e'; cases e'; rw [hT] at hc; cases hc), fun z sl _ j _ => nwR rx b hb j⟩, ⟨⟨Nat.le_trans ke.kb.size b₃.size, fun b o e nf nW => b₃.keep b o (nw b o e) (ke.kb.other b o e nf nW), fun b o e nW => let ⟨sl, e'⟩ := ke.kb.slots b o e nW; ⟨sl, b₃.keep b _ (nw b o e) e'⟩⟩, fun b vs m nz e => b₃.keep b _ (nw b _ e) (ke.tup b vs m nz e)⟩⟩
  by_cases hlt : i < ds.length
  · rw [List.drop_eq_getElem_cons hlt] at hrest
    obtain ⟨β, hβ, hrest⟩ := wopt_elim hrest
    refine itr.turn i _ ds[i] β _ _ (List.getElem?_eq_getElem hlt) hβ st hk fun v h₃ tk₃ b₃ cont => ?_
    refine cont Y.env _ _ fun h₄ tk₄ βv b₄ st₄ bv => ?_
    obtain ⟨a₄, ke₄⟩ := own_step (tk₃ := tk₄) b₄
    refine stores_sound I (sfR rx) bv (bindT_storable htg hβ) a₄ fun h₅ tk₅ kb₅ tup₅ a₅ => ?_
    have sfO : ∀ b ∈ sf, ¬ Own Y.env b := fun b hb => let ⟨r, _, hR⟩ := sfR rx b hb; (a'.regs.rin r b hR).2
    have hk₄ : HK Z' h₂ sf h₄ := hk.step b₄ itr.sfwr (itr.wcls i h st)
    have hk₅ : HK Z' h₂ sf h₅ := ⟨fun b vs m nz e => ⟨nz, tup₅ b vs m (hk₄.tup b vs m nz e).2⟩, fun b hb vs m e => let e' := hk₄.lst b hb vs m e; kb₅.other b _ e' (a₄.ok.fin.not_seq e' rfl) (sfO b hb), fun b hb o n e hd => let ⟨_, e'⟩ := hk₄.dct b hb o n e hd; let ⟨sl2, e2⟩ := kb₅.slots b _ e' (sfO b hb); ⟨sl2, e2⟩⟩
    have st₅ : St (i + 1) h₅ := itr.frame _ _ _ st₄ (fun b hb o e => kb₅.other b o e (nwF b hb) (nwO b hb)) hk₅
    have size5 : h₂.objs.size ≤ h₅.objs.size := Nat.le_trans hsz2 (Nat.le_trans b₄.size kb₅.size)
    refine runs_sound SX body hrest a₅ (fun σ₆ h₆ tk₆ R₆ hq₆ ke₆ rx₆ a₆ => ?_) (fun v₆ fr val h₆ tk₆ hq₆ ret => ?_) (fun c e h₆ tk₆ hc fl => loop_raises I zz hX hc fl)
    · have sfW : ∀ b ∈ sf, ¬ (Own Y.env b ∨ ∃ r, r ∉ lk' ∧ R' r b) := fun b hb w => w.elim (sfO b hb) fun ⟨r, hr, hR⟩ => by
        obtain ⟨r', hr', hR'⟩ := sfR rx b hb
        cases a'.regs.apart r r' b hR hR'
        exact hr (rsin r hr')
      have hk₆ : HK Z' h₂ sf h₆ := hk₅.ke a₅.ok.fin ke₆ sfW
      have st₆ : St (i + 1) h₆ := itr.frame _ _ _ st₅ (fun b hb o e => ke₆.kb.other b o e (nwF b hb) fun w => w.elim (nwO b hb) fun ⟨r, _, hR⟩ => nwR rx b hb r hR) hk₆
      have kbs : KeepB (fsOf Y.B.A) (fun b => Own Y.env b ∨ ∃ r, r ∉ lk ∧ R r b) s.heap h₅ := ke₄.kb.trans (kb₅.mono fun b _ o => .inl o)
      have nW : ∀ b o, s.heap.get? b = some o → ¬ (Own Y.env b ∨ ∃ r, r ∉ lk ∧ R r b) → ¬ (Own Y.env b ∨ ∃ r, r ∉ lk' ∧ R' r b) := fun b o e nw w => nw (w.imp id fun ⟨r, hr, hR⟩ => ⟨r, fun m => hr (lkin r m), back rx (Heap.lt_size e) hR⟩)
      exact ⟨ds.length + 1 - (i + 1), by omega, h₆, tk₆, R₆, Mine.mask (σ.map (·.1)) σ₆, i + 1, rfl, st₆, hk₆, a₆.mask _, rx.trans rx₆ size5, ⟨⟨Nat.le_trans kbs.size ke₆.kb.size, fun b o e nf nw => ke₆.kb.other b o (kbs.other b o e nf nw) nf (nW b o e nw), fun b o e nw => let ⟨_, e1⟩ := kbs.slots b o e nw; let ⟨s2, e2⟩ := ke₆.kb.slots b _ e1 (nW b o e nw); ⟨s2, e2⟩⟩,
        fun b vs m nz e => ke₆.tup b vs m (fun zb => (zz' b zb).elim nz fun q => absurd (Heap.lt_size e) (Nat.not_lt.mpr q.1)) (tup₅ b vs m (ke₄.tup b vs m nz e))⟩, Nat.le_trans size5 ke₆.kb.size, hq₆, by omega, rfl⟩
    · obtain ⟨as, k₆, rv₆, fp₆, nsm₆⟩ := ret
      exact hR v₆ fr val h₆ tk₆ hq₆ ⟨as, k₆, rv₆.moves (bar_moves fun b _ zb => zz b zb) (fun b o vs ho _ _ => ⟨o.slots, ho⟩) (fun _ _ => trivial), fp₆, nsm₆⟩
  · have hie : i = ds.length := by omega
    subst hie
    rw [List.drop_length] at hrest
    refine itr.done _ _ _ st hk fun h₃ tk₃ b₃ => ?_
    obtain ⟨a₃, ke₃⟩ := own_step (tk₃ := tk₃) b₃
    exact wpAny_execs_nil (hN σ' h₃ tk₃ R' hrest ke₃ ⟨fun r b l hR => back rx l hR, fun r hr b hR => rx.fwd r (lkin r hr) b (by subst hR₁; exact .inr ⟨hul r hr, hR⟩)⟩ (a₃.lessZ zz))

end
end Mine
end

section
set_option linter.unusedVariables false
namespace Mine
open PySem
variable {Z : Addr → Prop}

/-- the same block within a handler -/
abbrev Sx.mark (Y : Sx) (v : Value) : Sx := { Y with B := { Y.B with q := true, A := Y.B.A.mark (some v) } }

section
variable {Y : Sx} {R R' : Nat → Addr → Prop} {σ : Sg} {s : Shared} {lk : List Nat} {x xq : WXv} {wl : WLv} {Qw : Out → Prop} {Xw : Str → Prop} {Q : Flow → Shared → Prop} {E : Value → Shared → Prop}

theorem run_Raise (O : CxOk Y.B.C) (I : Inn Y) {c msg : Str} {np kp cp rp : Pos} {kk : Nat} (a : SAt Y Z R σ s) (hq : Y.B.q = false) (hcl : Y.B.C.K.isCls c = true) (hg : glob Y.env.scope.names c = true) (h : Xw c) (hX : KX Y Z s Xw E) :
    wpAny Y.B.M Y.B.A (exec (.Raise (some (.Call (.Name c np) [.Constant (.str msg) kk kp] [] cp)) none rp) Y.env) Q E s := by
  obtain ⟨B, newId, initId, bm, OC, FB⟩ := O.made c hcl
  obtain ⟨tl, N, nm, qn, bs, hdct, sn, sub, ab, col, dd, k0, k1, k2, k3, k5, mN, hC, hN, hni, T⟩ := OC.obj
  obtain ⟨hm, hdbg, _, _⟩ := O.cls c hcl
  refine wpAny_sized (wpAny_Raise_call_subT (C := Y.B.C.cls c) (nm := nm) (q := qn) (N := N) (bs := bs) (bm := tl) (hdct := hdct) (sn := sn) (sub := sub) (ab := ab) (col := col) (dd := dd) (k0 := k0) (k1 := k1) (k2 := k2) (k3 := k3) (k5 := k5)
    FB (mN := mN) (T.hasType FB.hasBase) (a.ok.hand hq) rfl hni ((a.at I []).global O hg hm hdbg ⟨rfl, Calls.evalArgs_plain (Calls.spliced_cons (Calls.Constant_str (k := kk) (pos := kp) (Calls.spliced_nil ?_)))⟩))
  refine ⟨rfl, by rw [sizeLine_eq]; simp, a.ok.stays _ _ hC, hN.keeps a.ok.stays, T.keeps a.ok.stays, fun h' e hx hsz => ?_⟩
  obtain ⟨t, he, _, _⟩ := hx.there
  have k : Keep (fsOf Y.B.A) s.heap h' := size_le_of_keeps hx.keeps hsz _
  exact hX.toX a I c (.ref e) h' _ h k ⟨e, _, _, rfl, hx.new, he, rfl, rfl, rfl, .inl rfl⟩

theorem Inn.mark (I : Inn Y) (v : Value) : Inn (Y.mark v) := ⟨I.frames, I.frame, I.lnew, I.cnew, I.hb0, I.fs0, I.eok⟩
theorem SAt.mark (a : SAt Y Z R σ s) (v : Value) : SAt (Y.mark v) Z R σ s := ⟨⟨a.ok.fr, a.ok.fin, a.ok.stays, (fun h => nomatch h), a.ok.depth, a.ok.units, a.ok.zin⟩, a.entry, a.vars, ⟨a.regs.apart, a.regs.rin, a.regs.rnew, a.regs.rP⟩⟩

/-- a caught exception and its suite -/
theorem caught_sound (O : CxOk Y.B.C) (I : Inn Y) (XQ : ∀ v, SoundX (Y.mark v) xq) {w nm c : Str} {wp hp : Pos} {hb : List Stmt} (a : SAt Y Z R σ s) (hw : Y.B.C.K.isCls w = true) (hg : glob Y.env.scope.names w = true) (hnm : Y.env.scope.names.lookup nm = some NameKind.local) (hhb : hb.isEmpty = false)
    (hcs : (Y.B.C.K.isCls c && Y.B.C.K.sub c w) = true) (h : wcaught xq lk nm c σ hb Qw Xw) (hR : KR Y Z s Qw Q) {ev : Value} {h₁ : Heap} {tk₁ : Nat} (k₁ : Keep (fsOf Y.B.A) s.heap h₁) (fl₁ : Fly Y.B.C.cls s.heap h₁ Y.env.frame c ev) :
    wpAny Y.B.M Y.B.A (noteFrame ev Y.env) (fun _ s₂ => wpAny Y.B.M Y.B.A (setFlight ev none) (fun _ s₃ => wpAny Y.B.M Y.B.A (handleBy ev Y.env [.ExceptHandler (some (.Name w wp)) (some nm) hb hp]) Q E s₃) E s₂) E { s with heap := h₁, toks := tk₁ } := by
  obtain ⟨hc, hsub⟩ := Bool.and_eq_true_iff.mp hcs
  obtain ⟨b₀, suite, rfl⟩ : ∃ b₀ r, hb = b₀ :: r := by cases hb with | nil => cases hhb | cons b r => exact ⟨b, r, rfl⟩
  have hfs : ∀ b ∈ fsOf Y.B.A, s.heap.get? b ≠ none → b ∈ fsOf Y.B.A := fun b hb _ => hb
  refine noteFrame_sound (hB := s.heap) (gs := fsOf Y.B.A) (s := { s with heap := h₁, toks := tk₁ }) I (a.ok.keep k₁) fl₁ k₁ fun h₂ nk₂ fl₂ => ?_
  have k₂ := nk₂.keep k₁ hfs (a.ok.fin.keep k₁)
  refine setFlight_sound (X := Y.B) (hB := s.heap) (L' := none) fl₂ fun h₃ nk₃ fl₃ => ?_
  have k₃ := nk₃.keep k₂ hfs (a.ok.fin.keep k₂)
  have a₃ := a.keep I (tk := tk₁) k₃
  obtain ⟨e, oe, vs, rfl, hen, he, hdn, hcls, hd, _⟩ := id fl₃
  obtain ⟨hm, hdbg, _, _⟩ := O.cls w hw
  refine wpAny_handleBy_cons (codeAny_handlers_test ?_) (by intro q; cases q)
  refine ((a₃.mark (.ref e)).at (I.mark _) []).global O hg hm hdbg ?_
  refine O.exm c w hc hw hsub _ _ e oe a₃.ok.stays he hcls _ _ ?_
  simp only [if_true]
  refine codeAny_handlers_suite_as ?_
  refine setFlight_sound (X := (Y.mark (.ref e)).B) (hB := s.heap) (L' := none) fl₃ fun h₄ nk₄ fl₄ => ?_
  have k₄ := nk₄.keep k₃ hfs (a.ok.fin.keep k₃)
  obtain ⟨e', oe', vs', q1, hen', he', hdn', hcls', hd', _⟩ := fl₄
  cases q1
  have hst : storable Y.env.scope.names nm = true := by unfold storable; rw [hnm]; rfl
  refine store_sound ((a.keep I (tk := tk₁) k₄).mark (.ref e)) (I.mark _) hst (sl := ⟨.exc c, [], none⟩) ⟨[], ⟨rfl, e, oe', vs', rfl, he', hdn', hcls', hd'⟩, (fun _ m => nomatch m), fun t ht => nomatch ht⟩ fun h₅ tk₅ kb₅ tup₅ a₅ => ?_
  refine runs_sound (XQ (.ref e)) (b₀ :: suite) h a₅ (fun _ _ _ _ z => z.elim) (fun v fr val h₆ tk₆ hq ret => ?_) fun _ _ _ _ z => z.elim
  obtain ⟨as, k₆, rv₆, fp₆, m₆, ns₆⟩ := ret
  refine wpAny_sized (wpAny_nameGoes hnm ns₆ (by rw [I.eok.kind]; rfl) fun h₇ m₇ ns₇ sb₇ sz₇ => ?_)
  obtain ⟨ol, es, ep, hol, hdl, _⟩ := ns₆
  have ne : ∀ b o, Y.h₀.get? b = some o → b ≠ Y.env.locals := fun b o e q => absurd (Heap.lt_size e) (Nat.not_lt.mpr (q ▸ I.lnew))
  have kb : KeepB [] (fun b => b = Y.env.locals) h₆ h₇ := KeepB.exact sz₇ fun b o nw e => sb₇.extBut b o nw e
  refine hR v fr val h₇ _ hq ⟨as, ⟨Nat.le_trans k₆.size sz₇, fun b o e nf => sb₇.extBut b o (ne b o e) (k₆.other b o e nf), fun b o e => let ⟨sl, e'⟩ := k₆.slots b o e; ⟨sl, sb₇.extBut b _ (ne b o e) e'⟩⟩, rv₆.moves (kb.moves (fun b hb => nomatch hb) fun b q _ vs m e => ?_) (fun b o vs ho hd _ => kb.slots b o ho fun q => ?_) (fun b hb q => (fp₆ b hb).2 (.inl q)), fp₆, m₇, ns₇⟩
  · subst q; rw [hol] at e; cases e; cases hdl
  · subst q; rw [hol] at ho; cases ho; rw [hdl] at hd; cases hd

theorem run_TryRet (O : CxOk Y.B.C) (S : Sound Y.B wl) (I : Inn Y) (XQ : ∀ v, SoundX (Y.mark v) xq) {hb : List Stmt} {w nm : Str} {wp hp pos rp : Pos} {e : Expr} (a : SAt Y Z R σ s) (hw : Y.B.C.K.isCls w = true) (hg : glob Y.env.scope.names w = true) (hnm : Y.env.scope.names.lookup nm = some NameKind.local) (hhb : hb.isEmpty = false)
    (h : wevS wl Y.env.scope.names lk σ e (fun sl => Qw (.ret sl.v (!sl.regs.contains 0))) fun c => (Y.B.C.K.isCls c && Y.B.C.K.sub c w) = true ∧ wcaught xq lk nm c σ hb Qw Xw) (hR : KR Y Z s Qw Q) :
    wpAny Y.B.M Y.B.A (exec (.Try [.Return (some e) rp] [.ExceptHandler (some (.Name w wp)) (some nm) hb hp] [] [] pos) Y.env) Q E s :=
  wpAny_Try_except (wpAny_execs_cons (wpAny_Return_some (evS_sound S I a h (fun sl v h' tk R' hs k rx nw a' sd => hR _ _ v h' tk hs (ret_of a' sd)) fun c ev h' tk hc k fl => caught_sound O I XQ a hw hg hnm hhb hc.1 hc.2 hR k fl)))
theorem run_TryIte (O : CxOk Y.B.C) (S : Sound Y.B wl) (I : Inn Y) (XQ : ∀ v, SoundX (Y.mark v) xq) {hb : List Stmt} {w nm : Str} {wp hp pos rp rp' ip : Pos} {c e e' : Expr} (a : SAt Y Z R σ s) (hw : Y.B.C.K.isCls w = true) (hg : glob Y.env.scope.names w = true) (hnm : Y.env.scope.names.lookup nm = some NameKind.local) (hhb : hb.isEmpty = false)
    (h : wl.cond Y.env.scope.names (rhoOf (pick σ (nms c))) c (fun b => wevS wl Y.env.scope.names lk σ (match b with | true => e | false => e') (fun sl => Qw (.ret sl.v (!sl.regs.contains 0))) fun c => (Y.B.C.K.isCls c && Y.B.C.K.sub c w) = true ∧ wcaught xq lk nm c σ hb Qw Xw) fun c => (Y.B.C.K.isCls c && Y.B.C.K.sub c w) = true ∧ wcaught xq lk nm c σ hb Qw Xw) (hR : KR Y Z s Qw Q) :
    wpAny Y.B.M Y.B.A (exec (.Try [.If c [.Return (some e) rp] [] ip, .Return (some e') rp'] [.ExceptHandler (some (.Name w wp)) (some nm) hb hp] [] [] pos) Y.env) Q E s := by
  refine wpAny_Try_except (wpAny_execs_cons (wpAny_If (S.cond h (a.at I (nms c)) (fun b h' tk hb' k => ?_) fun c ev h' tk hc k fl => caught_sound O I XQ a hw hg hnm hhb hc.1 hc.2 hR k fl)))
  have a' := a.keep I (tk := tk) k
  cases b with
  | true => exact wpAny_execs_cons (wpAny_Return_some (evS_sound S I a' hb' (fun sl v h'' tk' R' hs k' rx nw a' sd => hR _ _ v h'' tk' hs (ret_of a' sd)) fun c ev h'' tk' hc k' fl => caught_sound O I XQ a hw hg hnm hhb hc.1 hc.2 hR (k.trans k') (fl.older k)))
  | false => exact wpAny_execs_nil (wpAny_execs_cons (wpAny_Return_some (evS_sound S I a' hb' (fun sl v h'' tk' R' hs k' rx nw a' sd => hR _ _ v h'' tk' hs (ret_of a' sd)) fun c ev h'' tk' hc k' fl => caught_sound O I XQ a hw hg hnm hhb hc.1 hc.2 hR (k.trans k') (fl.older k))))
theorem run_TryExpr (O : CxOk Y.B.C) (S : Sound Y.B wl) (I : Inn Y) (XQ : ∀ v, SoundX (Y.mark v) xq) {hb : List Stmt} {w nm : Str} {wp hp pos rp : Pos} {e : Expr} (a : SAt Y Z R σ s) (hw : Y.B.C.K.isCls w = true) (hg : glob Y.env.scope.names w = true) (hnm : Y.env.scope.names.lookup nm = some NameKind.local) (hhb : hb.isEmpty = false) (hsw : swapsWith e none rp.line Y.env = pure false)
    (h : wl.ev Y.env.scope.names (rhoOf (pick σ (nms e))) e (fun r => noRef r.1 = true ∧ Qw (.next σ)) fun c => (Y.B.C.K.isCls c && Y.B.C.K.sub c w) = true ∧ wcaught xq lk nm c σ hb Qw Xw) (hN : KN Y Z lk R s Qw Q) (hR : KR Y Z s Qw Q) :
    wpAny Y.B.M Y.B.A (exec (.Try [.Expr e rp] [.ExceptHandler (some (.Name w wp)) (some nm) hb hp] [] [] pos) Y.env) Q E s := by
  refine wpAny_Try_except (wpAny_execs_cons (wpAny_Expr (S.ev (Nat.le_refl _) h (a.at I (nms e)) (fun r v h' tk as hr k rv fp => ?_) fun c ev h' tk hc k fl => caught_sound O I XQ a hw hg hnm hhb hc.1 hc.2 hR k fl) (by unfold interactive; rw [I.eok.kind]; rfl) hsw))
  have fin := hN σ h' tk R hr.2 (Ke.ofKeep a.ok.fin k) Rx.refl (a.keep I k)
  obtain ⟨rv1, fl⟩ := r
  obtain ⟨hn, _⟩ := hr
  cases rv1 with
  | exc c => cases hn
  | dat d => cases d <;> first | cases hn; done | (cases rv; exact wpAny_execs_nil (wpAny_execs_nil fin))

theorem raiseOf_eq {a b : Option Expr} {c msg : Str} {np kp cp : Pos} {kk : Nat} (h : raiseOf a b = some (c, np, msg, kk, kp, cp)) : a = some (.Call (.Name c np) [.Constant (.str msg) kk kp] [] cp) ∧ b = none := by
  unfold raiseOf at h
  split at h
  · cases h; exact ⟨rfl, rfl⟩
  · cases h
theorem handOf_eq {hs : List ExceptHandler} {w nm : Str} {wp hp : Pos} {hb : List Stmt} (h : handOf hs = some (w, wp, nm, hb, hp)) : hs = [.ExceptHandler (some (.Name w wp)) (some nm) hb hp] := by
  unfold handOf at h
  split at h
  · cases h; rfl
  · cases h
theorem tryOf_eq {b : List Stmt} {t : TryBody} (h : tryOf b = some t) : b = match t with | .ret e p => [.Return (some e) p] | .expr e p => [.Expr e p] | .ite c e e' p p' q => [.If c [.Return (some e) p] [] q, .Return (some e') p'] := by
  unfold tryOf at h
  split at h
  · cases h; rfl
  · cases h; rfl
  · cases h; rfl
  · cases h
theorem appOf_eq {e e' : Expr} {y m : Str} {py apos cpos : Pos} (h : appOf e = some (y, py, m, apos, e', cpos)) : e = .Call (.Attribute (.Name y py) m apos) [e'] [] cpos := by
  unfold appOf at h
  split at h
  · cases h; rfl
  · cases h
theorem ownList_eq {sl : Slot} {xs : List PyData} {rg : List Nat} {t : Nat} (h : ownList sl = some (xs, rg, t)) : sl = ⟨.dat (.list xs), rg, some t⟩ := by
  unfold ownList at h
  split at h
  · cases h; rfl
  · cases h
theorem swaps_call {env : Env} {e : Expr} {l : Nat} (h : isCall e = true) : swapsWith e none l env = pure false := by
  cases e <;> first | rfl | (simp [isCall] at h)

set_option maxHeartbeats 1000000 in
theorem step_run (O : CxOk Y.B.C) (Fn : FnsOk Y.B) (S : Sound Y.B wl) (SX : SoundX Y x) (I : Inn Y) (XQ : ∀ v, SoundX (Y.mark v) xq) {st : Stmt} (a : SAt Y Z R σ s) (h : (wstepX Y.B.C.K Y.B.q (wstep Y.B.C.K Y.B.q wl) xq Y.env.scope.names x).run lk σ st Qw Xw)
    (hN : KN Y Z lk R s Qw Q) (hR : KR Y Z s Qw Q) (hX : KX Y Z s Xw E) : wpAny Y.B.M Y.B.A (exec st Y.env) Q E s := by
  have S1 : Sound Y.B (wstep Y.B.C.K Y.B.q wl) := ⟨fun _ _ _ _ _ _ h => h, fun _ _ _ _ _ _ _ h => h, fun hN h at_ hQ hE => step_ev O Fn S at_ hN h hQ hE, fun h at_ hQ hE => step_cond S at_ h hQ hE⟩
  cases st with
  | Assign ts e p =>
    cases ts with
    | nil => exact False.elim h
    | cons t r => cases r with
      | cons _ _ => exact False.elim h
      | nil =>
        obtain ⟨y, hy, h⟩ := wopt_elim h
        obtain ⟨hs, h⟩ := wif_elim h
        obtain ⟨hs1, hs2⟩ := Bool.and_eq_true_iff.mp hs
        rw [nameOf_eq hy]
        exact run_AssignAny O Fn S I a hs1 (by simpa using hs2) h hN hX
  | Expr e p =>
    cases ha : appOf e with
    | none =>
      have h : wif (isCall e) (fun Q X => (wstep Y.B.C.K Y.B.q wl).ev Y.env.scope.names (rhoOf (pick σ (nms e))) e (fun r => noRef r.1 = true ∧ Q (.next σ)) X) Qw Xw := by
        have h' := h
        simp only [wstepX, ha] at h'
        exact h'
      obtain ⟨hc, h⟩ := wif_elim h
      exact run_Expr S1 I a (swaps_call hc) h hN hX
    | some t =>
      obtain ⟨y, py, m, apos, e', cpos⟩ := t
      have h := h
      simp only [wstepX, ha] at h
      obtain ⟨hc, h⟩ := wif_elim h
      simp only [Bool.and_eq_true, Bool.not_eq_true', Bool.or_eq_false_iff] at hc
      obtain ⟨⟨⟨hm, _⟩, hline⟩, hd1, hd2⟩ := hc
      obtain ⟨sl, hsl, h⟩ := wopt_elim h
      obtain ⟨⟨xs, rg, t⟩, ho, h⟩ := wopt_elim h
      cases ownList_eq ho
      rw [appOf_eq ha, eq_of_beq hm]
      exact run_Append S1 I a hline hd1 hd2 hsl h hN hX
  | If c b o p => exact run_If S1 SX I a h hN hR hX
  | Return e p =>
    cases e with
    | none => exact run_ReturnNone a h hR
    | some e => exact run_Return S1 I a h hR hX
  | For tgt it body els p =>
    cases els with
    | cons _ _ => exact False.elim h
    | nil =>
      obtain ⟨hc, h⟩ := wif_elim h
      obtain ⟨hq, ht⟩ := Bool.and_eq_true_iff.mp hc
      exact run_For O S1 SX I a (by simpa using hq) ht rfl h hN hR hX
  | Raise b c p =>
    obtain ⟨⟨c, np, msg, kk, kp, cp⟩, hr, h1⟩ := wopt_elim h
    obtain ⟨hc, h2⟩ := wif_elim h1
    clear h h1
    obtain ⟨hc, hg⟩ := Bool.and_eq_true_iff.mp hc
    obtain ⟨hq, hcl⟩ := Bool.and_eq_true_iff.mp hc
    obtain ⟨rfl, rfl⟩ := raiseOf_eq hr
    exact run_Raise O I a (by simpa using hq) hcl hg h2 hX
  | Try body hs els fin p =>
    cases els with
    | cons _ _ => exact False.elim h
    | nil => cases fin with
      | cons _ _ => exact False.elim h
      | nil =>
        obtain ⟨⟨w, wp, nm, hb, hp⟩, hh, h⟩ := wopt_elim h
        obtain ⟨hc, h⟩ := wif_elim h
        simp only [Bool.and_eq_true, Bool.not_eq_true', beq_iff_eq] at hc
        obtain ⟨⟨⟨⟨hq, hw⟩, hg⟩, hnm⟩, hhb⟩ := hc
        obtain ⟨t, ht, h⟩ := wopt_elim h
        rw [handOf_eq hh, tryOf_eq ht]
        cases t with
        | ret e rp => exact run_TryRet O S1 I XQ a hw hg hnm hhb h hR
        | ite c e e' p p' q => exact run_TryIte O S1 I XQ a hw hg hnm hhb h hR
        | expr e rp => exact run_TryExpr O S1 I XQ a hw hg hnm hhb (swaps_call h.1) h.2 hN hR
  | _ => exact False.elim h

theorem SoundX.xlev (O : CxOk Y.B.C) (Fn : FnsOk Y.B) (S : Sound Y.B wl) (I : Inn Y) (XQ : ∀ v, SoundX (Y.mark v) xq) : ∀ k, SoundX Y (wxlev Y.B.C.K Y.B.q (wstep Y.B.C.K Y.B.q wl) xq Y.env.scope.names k)
  | 0 => ⟨fun h => False.elim h⟩
  | k + 1 => ⟨fun h a hN hR hX => step_run O Fn S (SoundX.xlev O Fn S I XQ k) I XQ a h hN hR hX⟩
/-- a block's statements are sound -/
theorem SoundX.block (O : CxOk Y.B.C) (Fn : FnsOk Y.B) (FnQ : ∀ v, FnsOk (Y.mark v).B) (I : Inn Y) : SoundX Y (wblockX Y.B.C.K Y.B.q Y.env.scope.names) :=
  SoundX.xlev O Fn (Sound.lev O Fn 39) I (fun v => SoundX.xlev (Y := Y.mark v) O (FnQ v) (Sound.lev (X := (Y.mark v).B) O (FnQ v) 39) (I.mark v) (fun _ => ⟨fun h => False.elim h⟩) 20) 20

end
end Mine
end

section
set_option linter.unusedVariables false
namespace Mine
open PySem
variable {Z : Addr → Prop}

/-- a def of the text as it stands in the heap -/
inductive FnObj (C : Cx) (f : Str) (fn : Fn) : Prop
  | mk (a : Addr) (o : Obj) (fd : FuncData) (hm : C.mg f = some (.ref a)) (ho : C.hb.get? a = some o) (hdata : o.data = .func fd) (hbody : fd.body = .stmts fn.body) (hnames : fd.scope.names = fn.names) (hkind : fd.scope.kind = .function) (hco : fd.scope.isCoroutine = false) (hgen : fd.scope.isGenerator = false)
    (hclo : fd.closure = []) (hglob : fd.globals = mainGlobals) (hbi : fd.builtins = builtinsNs) (hcd : C.hb.CodeRec fd.code fd.qualname) (hbind : ∀ vals : List Value, vals.length = fn.params.length → bindArgs fd ⟨vals, []⟩ = pure (fn.params.zip vals))
/-- what must be so of a def of the text -/
structure FnFact (C : Cx) (f : Str) (fn : Fn) : Prop where
  obj : FnObj C f fn
  nodup : fn.params.Nodup
  params : ∀ p ∈ fn.params, storable fn.names p = true
  nofree : ∀ x, fn.names.lookup x ≠ some .free
def cx (C : Cx) (G : Prog) (m : Nat) : Cx := { C with K := cfg G (pcall G m) }
theorem CxOk.any {C : Cx} {G : Prog} {k : Nat} (O : CxOk (cx C G k)) (m : Nat) : CxOk (cx C G m) := ⟨O.g, O.b, O.nolimit, O.const, O.bi, O.cls, O.made, O.exm, O.isi⟩

theorem cellsFrom_some : ∀ (names : List (Str × NameKind)) (k : Nat) (acc : List (Str × Addr)) (x : Str), ((x, NameKind.cell) ∈ names ∨ (acc.lookup x).isSome = true) → ((cellsFrom k names acc).lookup x).isSome = true
  | [], _, acc, x, h => h.elim (fun h => nomatch h) id
  | (y, kd) :: r, k, acc, x, h => by
    unfold cellsFrom
    split
    · refine cellsFrom_some r _ _ x ?_
      rcases h with h | h
      · rcases List.mem_cons.mp h with e | h
        · cases e; exact .inr (by rw [List.lookup_cons]; simp)
        · exact .inl h
      · refine .inr ?_
        rw [List.lookup_cons]
        cases x == y <;> first | exact h | rfl
    · rename_i hk
      exact cellsFrom_some r _ _ x (h.imp (fun h => (List.mem_cons.mp h).elim (fun e => by cases e; exact absurd rfl hk) id) id)
theorem bindL_other {ko : Str → Option NameKind} {x : Str} : ∀ (bs : List (Str × Value)) (m : Str → Option Value), (∀ p ∈ bs, p.1 ≠ x) → bindL ko bs m x = m x
  | [], _, _ => rfl
  | (y, v) :: r, m, h => by
    unfold bindL
    rw [bindL_other r _ fun p hp => h p (.tail _ hp)]
    split
    · have : x ≠ y := fun q => h (y, v) (.head _) q.symm
      simp [this]
    · rfl
theorem bindC_other {ko : Str → Option NameKind} {x : Str} : ∀ (bs : List (Str × Value)) (m : Str → Option Value), (∀ p ∈ bs, p.1 ≠ x) → bindC ko bs m x = m x
  | [], _, _ => rfl
  | (y, v) :: r, m, h => by
    unfold bindC
    rw [bindC_other r _ fun p hp => h p (.tail _ hp)]
    split
    · rfl
    · have : x ≠ y := fun q => h (y, v) (.head _) q.symm
      simp [this]
theorem bind_at {ko : Str → Option NameKind} {x : Str} {v : Value} : ∀ (bs : List (Str × Value)) (m cm : Str → Option Value), (bs.map (·.1)).Nodup → (x, v) ∈ bs → (ko x = some .local → bindL ko bs m x = some v) ∧ (ko x ≠ some .local → bindC ko bs cm x = some v)
  | [], _, _, _, h => by cases h
  | (y, u) :: r, m, cm, hn, h => by
    rw [List.map_cons, List.nodup_cons] at hn
    rcases List.mem_cons.mp h with e | h
    · cases e
      have ho : ∀ p ∈ r, p.1 ≠ x := fun p hp q => hn.1 (List.mem_map.mpr ⟨p, hp, q⟩)
      refine ⟨fun hl => ?_, fun hl => ?_⟩
      · unfold bindL; rw [bindL_other r _ ho, if_pos hl]; simp
      · unfold bindC; rw [bindC_other r _ ho, if_neg hl]; simp
    · unfold bindL bindC
      exact bind_at r _ _ hn.2 h
inductive ArgAt (C : Cx) (Z : Addr → Prop) (h : Heap) (P : Addr → Prop) (bs : List (Str × Value)) (x : Str) (sl : Slot) : Prop
  | mk (v : Value) (as : List Addr) (m : (x, v) ∈ bs) (r : VR C Z h v sl.v as) (p : ∀ a ∈ as, P a) (t : sl.top = none) (g : sl.regs = if sl.v.flat then [] else [0])
theorem argSlots_lookup {C : Cx} {h : Heap} {P : Addr → Prop} {xs : List V} {vs : List Value} (r : VRsP C Z h P vs xs) : ∀ (ps : List Str) (σ : Sg), argSlots ps xs = some σ → vs.length = ps.length ∧ ∀ x sl, σ.lookup x = some sl → ArgAt C Z h P (ps.zip vs) x sl := by
  induction r with
  | nil =>
    intro ps σ e
    cases ps with
    | nil => cases e; exact ⟨rfl, fun x sl h => by cases h⟩
    | cons _ _ => cases e
  | @cons v d as vs xs r f _ ih =>
    intro ps σ e
    cases ps with
    | nil => cases e
    | cons p ps =>
      obtain ⟨σ', e', rfl⟩ := Option.map_eq_some_iff.mp e
      obtain ⟨h1, h2⟩ := ih ps σ' e'
      refine ⟨by rw [List.length_cons, List.length_cons, h1], fun y sl hy => ?_⟩
      rw [List.lookup_cons] at hy
      cases hb : y == p with
      | true =>
        rw [hb] at hy; cases hy
        have := eq_of_beq hb; subst this
        exact ⟨v, _, .head _, r, f, rfl, rfl⟩
      | false =>
        rw [hb] at hy
        obtain ⟨u, as, g1, g2, g3, g4, g5⟩ := h2 y sl hy
        exact ⟨u, as, .tail _ g1, g2, g3, g4, g5⟩

/-- around a call: frames of the text, or none -/
structure OkT (X : Bx) (Z : Addr → Prop) (h : Heap) : Prop where
  fr : ∃ outer, X.A.frames = some outer ∧ h.FunFrames X.C.hb outer
  fin : FramesIn (fsOf X.A) h
  stays : X.C.hb.StaysIn h
  hand : X.q = false → X.A.handled = none
  depth : X.A.depth + X.n < 900
  units : X.A.units + 8 * X.n + 100 < 9900
  zin : ∀ a, Z a → a < h.objs.size ∧ X.C.hb.get? a = none

section
variable {C : Cx} {G : Prog}

/-- the block of a call -/
abbrev callSx (C : Cx) (G : Prog) (m : Nat) (q : Bool) (A : Around) (n : Nat) (h₀ : Heap) (P₀ : Addr → Prop) (env : Env) : Sx := ⟨⟨cx C G m, q, A.deeper env, n⟩, fsOf A, h₀, P₀, env⟩
/-- an argument, within its regions -/
inductive ArgS (C : Cx) (Z : Addr → Prop) (R : Nat → Addr → Prop) (h : Heap) (bs : List (Str × Value)) (x : Str) (sl : Slot) : Prop
  | mk (v : Value) (as : List Addr) (m : (x, v) ∈ bs) (r : VR C Z h v sl.v as) (p : ∀ a ∈ as, ∃ r ∈ sl.regs, R r a) (t : sl.top = none)
/-- the regions ahead of a call -/
structure Regs0 (R : Nat → Addr → Prop) (h₀ h : Heap) (P₀ : Addr → Prop) : Prop where
  apart : ∀ i j a, R i a → R j a → i = j
  rin : ∀ i a, R i a → a < h.objs.size
  rnew : ∀ i a, R i a → i ≠ 0 → h₀.objs.size ≤ a
  rP : ∀ a, R 0 a → P₀ a

/-- a def's block is entered -/
theorem fn_enter (T : ∀ f fn, G.fns.lookup f = some fn → FnFact C f fn) (O : CxOk (cx C G 0)) {m : Nat} (ih : ∀ q A n, m ≤ n → FnsOk ⟨cx C G m, q, A, n⟩) {q : Bool} {A : Around} {n : Nat} (hn : m ≤ n) {f : Str} {fn : Fn} (hl : G.fns.lookup f = some fn) {a : Addr} (hma : C.mg f = some (.ref a))
    {s : Shared} {vs : List Value} {Z P₀ : Addr → Prop} {h₀ : Heap} {R : Nat → Addr → Prop} {σ : Sg} {Q E : Value → Shared → Prop} (ok : OkT ⟨C, q, A, n + 1⟩ Z s.heap) (hk0 : Keep (fsOf A) h₀ s.heap) (hb0 : C.hb.StaysIn h₀) (rg : Regs0 R h₀ s.heap P₀)
    (hlen : vs.length = fn.params.length) (hlook : ∀ x sl, σ.lookup x = some sl → ArgS (cx C G m) Z R s.heap (fn.params.zip vs) x sl)
    (k : ∀ env h₁ tk₁, env.scope.names = fn.names → Inn (callSx C G m q A n h₀ P₀ env) → s.heap.objs.size ≤ env.locals → Keep (fsOf A) s.heap h₁ → SAt (callSx C G m q A n h₀ P₀ env) Z R σ { s with heap := h₁, toks := tk₁ } → SoundX (callSx C G m q A n h₀ P₀ env) (wblockX (cfg G (pcall G m)) q fn.names) → (∀ b, Own env b → s.heap.objs.size ≤ b) →
      wpAny (model C.prog C.w) (A.deeper env) (execs fn.body env) (fun fl s' => Q (match fl with | .ret v => v | _ => .none) s') (fun e s' => wpAny (model C.prog C.w) (A.deeper env) (leaving env e) (fun _ s'' => E e s'') (fun e' s'' => E e' s'') s') { s with heap := h₁, toks := tk₁ }) :
    wpAny (model C.prog C.w) A (call (.ref a) vs) Q E s := by
  have F := T f fn hl
  obtain ⟨a', o, fd, hm, ho, hdata, hbody, hnames, hkind, hco, hgen, hclo, hglob, hbi, hcd, hbind⟩ := F.obj
  rw [hma] at hm
  cases hm
  have stays : C.hb.StaysIn s.heap := ok.stays
  have hkinds : ∀ x ∈ fn.params.zip vs, fd.scope.names.lookup x.1 = some .local ∨ (fd.scope.names.lookup x.1 = some .cell ∧ ((cellsFrom (s.heap.objs.size + 1) fd.scope.names []).lookup x.1).isSome = true) := fun x hx => by
    have hp := F.params x.1 (List.of_mem_zip (show (x.1, x.2) ∈ _ from hx)).1
    unfold storable at hp
    rw [hnames]
    exact (Bool.or_eq_true_iff.mp hp).imp (fun h => eq_of_beq h) fun h => ⟨eq_of_beq h, cellsFrom_some _ _ _ _ (.inl (PySem.mem_of_lookup (eq_of_beq h)))⟩
  have depth := ok.depth
  refine wpAny_call (codeAny_call_cells (by show A.depth < 1000; simp only at depth; omega) (stays _ _ ho) hdata (O.nolimit.keeps stays) (hcd.keeps stays) hbody (hbind vs hlen) hclo hkinds (fun s₁ X => ?_) hco hgen hkind)
  generalize henv : callEnvC fd s.heap.objs.size a = env at X ⊢
  obtain ⟨h₁, tk₁, rfl, keep₁⟩ := X.done
  have eL : env.locals = s.heap.objs.size := by rw [← henv]; rfl
  have eN : env.scope.names = fn.names := by rw [← henv]; exact hnames
  have ns₁ := X.toInCall.ns
  have sz₁ : s.heap.objs.size < h₁.objs.size := by rw [← eL]; exact ns₁.lt
  have k₁ : Keep (fsOf A) s.heap h₁ := size_le_of_keeps keep₁ (Nat.le_of_lt sz₁) _
  obtain ⟨outer, hA, hff⟩ := ok.fr
  have hA' : (A.deeper env).frames = some (env :: outer) := Around.frames_deeper hA
  have eok : EnvOk env := by
    refine ⟨fun x hx => ?_, by rw [← henv]; exact hkind, by rw [← henv]; exact hglob, by rw [← henv]; exact hbi⟩
    have hk : ∀ k, env.kindOf x = k → fn.names.lookup x = k := fun k hk => by rw [← eN]; exact hk
    rcases hx with hx | hx
    · have := hk _ hx
      rw [← henv]
      show ((cellsFrom (s.heap.objs.size + 1) fd.scope.names []).lookup x).isSome = true
      rw [hnames]
      exact cellsFrom_some _ _ _ _ (.inl (PySem.mem_of_lookup this))
    · exact absurd (hk _ hx) (F.nofree x)
  have ownGe : ∀ b, Own env b → s.heap.objs.size ≤ b := fun b hb => hb.elim (fun q => by rw [q, eL]; exact Nat.le_refl _) fun ⟨z, hz⟩ => by rw [← eL]; exact Nat.le_of_lt (X.above z b (PySem.mem_of_lookup hz))
  have le0 : h₀.objs.size ≤ s.heap.objs.size := hk0.size
  have I : Inn (callSx C G m q A n h₀ P₀ env) :=
    ⟨⟨outer, hA', by show _ = fsOf A; unfold fsOf; rw [hA]; rfl⟩, by rw [← henv]; rfl, by show h₀.objs.size ≤ env.locals; rw [eL]; exact le0, fun x c hc => have := X.above x c (PySem.mem_of_lookup hc); ⟨Nat.le_trans le0 (by rw [← eL]; exact Nat.le_of_lt this), Nat.ne_of_gt this⟩, hb0, fun b hb o => let ⟨_, _, _, hb', _⟩ := ok.fin b hb; absurd (Heap.lt_size hb') (Nat.not_lt.mpr (ownGe b o)), eok⟩
  have hF : FramesIn (fsOf (A.deeper env)) h₁ := fun b hb => by
    have hb : b ∈ env.locals :: fsOf A := (show fsOf (A.deeper env) = env.locals :: fsOf A from I.fs) ▸ hb
    rcases List.mem_cons.mp hb with rfl | hb
    · obtain ⟨o, es, ep, e1, e2, _⟩ := ns₁
      exact ⟨o, es, ep, e1, e2⟩
    · obtain ⟨o, es, ep, e1, e2⟩ := ok.fin b hb
      exact ⟨o, es, ep, keep₁ b o e1, e2⟩
  have ok₁ : Okk ⟨cx C G m, q, A.deeper env, n⟩ env.frame Z h₁ := by
    refine ⟨⟨env, outer, hA', rfl, ?_⟩, hF, fun b o e => keep₁ b o (stays b o e), ok.hand, ?_, ?_, fun b hb => ⟨Nat.lt_trans (ok.zin b hb).1 sz₁, (ok.zin b hb).2⟩⟩
    · refine Heap.FunFrames.cons (by rw [← henv]; show fd.scope.kind ≠ _; rw [hkind]; decide) (by rw [← henv]; rfl) ns₁ ?_ (hff.of_keeps fun b o e _ => ⟨o, keep₁ b o e, rfl⟩)
      rw [eL]; exact stays.fresh
    · show A.depth + 1 + n < 900; simp only at depth; omega
    · have := ok.units
      show A.units + 3 + 8 * n + 100 < 9900; simp only at this; omega
  refine k env h₁ tk₁ eN I (by rw [eL]; exact Nat.le_refl _) k₁ ⟨ok₁, hk0.trans k₁, ?_, rg.apart, fun i b h => ⟨Nat.lt_trans (rg.rin i b h) sz₁, fun o => absurd (rg.rin i b h) (Nat.not_lt.mpr (ownGe b o))⟩, rg.rnew, rg.rP⟩ ?_ ownGe
  · refine ⟨_, _, ⟨ns₁, X.cell, X.apart⟩, fun x sl hx => ?_⟩
    obtain ⟨v, as, g1, g2, g3, g4⟩ := hlook x sl hx
    refine ⟨v, as, ?_, g2.keep ok.fin k₁, g3, fun t ht => by rw [g4] at ht; cases ht⟩
    have nd : ((fn.params.zip vs).map (·.1)).Nodup := by
      rw [List.map_fst_zip (by rw [hlen]; exact Nat.le_refl _)]
      exact F.nodup
    obtain ⟨b1, b2⟩ := bind_at (ko := env.kindOf) (x := x) (v := v) (fn.params.zip vs) (fun _ => none) (fun _ => none) nd g1
    unfold valueAt
    rcases hkinds (x, v) g1 with hk | ⟨hk, hc⟩
    · have hk' : env.kindOf x = some .local := by rw [← henv]; exact hk
      rw [hk']
      exact b1 hk'
    · have hk' : env.kindOf x = some .cell := by rw [← henv]; exact hk
      have hc' : (env.cells.lookup x).isSome = true := by rw [← henv]; exact hc
      rw [hk']
      simp only [hc', if_true]
      exact b2 (by rw [hk']; decide)
  · have := SoundX.block (Y := callSx C G m q A n h₀ P₀ env) (O.any m) (ih q (A.deeper env) n hn) (fun v => ih true ((A.deeper env).mark (some v)) n hn) I
    rw [eN] at this
    exact this

/-- an exception leaves a call's block -/
theorem leaves {Y : Sx} (I : Inn Y) {Z : Addr → Prop} {s : Shared} {E : Value → Shared → Prop} {c : Str} {e : Value} {h' : Heap} {tk : Nat} (fl : Flies Y Z c e h') (hE : ∀ h₃, Keep Y.fs₀ Y.h₀ h₃ → (∀ L, Fly Y.B.C.cls Y.h₀ h₃ L c e) → E e { s with heap := h₃, toks := tk }) :
    wpAny Y.B.M Y.B.A (leaving Y.env e) (fun _ s'' => E e s'') (fun e' s'' => E e' s'') { s with heap := h', toks := tk } := by
  obtain ⟨k', ok', fl⟩ := fl
  unfold leaving
  refine wpAny_bind (noteFrame_sound (hB := Y.h₀) (gs := Y.fs₀) (s := { s with heap := h', toks := tk }) I ok' fl k' fun h₂ nk₂ fl₂ => setFlight_sound (X := Y.B) (hB := Y.h₀) (L' := none) fl₂ fun h₃ nk₃ fl₃ => ?_)
  have k₃ := nk₃.keep (nk₂.keep k' I.notOld (I.fin0 ok'.fin)) I.notOld (I.fin0 (ok'.note nk₂ I.hb0).fin)
  obtain ⟨e', oe, ws, q1, q2, q3, qdn, q4, q5, T', oT, ts, x, q6, q7, q8, q9, q10, q11, q12⟩ := fl₃
  exact hE h₃ k₃ fun _ => ⟨e', oe, ws, q1, q2, q3, qdn, q4, q5, .inr ⟨T', oT, ts, x, q6, q7, q8, q9, q10, q11, .inl (q12.elim id fun ⟨l, h, _⟩ => nomatch h)⟩⟩

theorem fn_call (T : ∀ f fn, G.fns.lookup f = some fn → FnFact C f fn) (O : CxOk (cx C G 0)) {m : Nat} (ih : ∀ q A n, m ≤ n → FnsOk ⟨cx C G m, q, A, n⟩) {q : Bool} {A : Around} {n : Nat} (hn : m ≤ n) {f : Str} {fn : Fn} (hl : G.fns.lookup f = some fn) {a : Addr} (hma : C.mg f = some (.ref a))
    {xs : List V} {s : Shared} {vs : List Value} {Z P : Addr → Prop} {L : Option Addr} {Qw : VB → Prop} {Xw : Str → Prop} {Q E : Value → Shared → Prop} (h : pcall G (m + 1) q f xs Qw Xw) (ok : OkT ⟨C, q, A, n + 1⟩ Z s.heap) (args : VRsP (cx C G m) Z s.heap P vs xs)
    (hQ : KO ⟨cx C G m, q, A, n + 1⟩ Z P s.heap.objs.size s Qw Q) (hE : KE ⟨cx C G m, q, A, n + 1⟩ L s Xw E) : wpAny (model C.prog C.w) A (call (.ref a) vs) Q E s := by
  rw [pcall_succ] at h
  unfold pstep at h
  rw [hl] at h
  obtain ⟨σ, hσ, h⟩ := wopt_elim (o := argSlots fn.params xs) h
  obtain ⟨hlen, hlook⟩ := argSlots_lookup args fn.params σ hσ
  refine fn_enter T O ih hn hl hma (h₀ := s.heap) (P₀ := P) (R := fun r b => r = 0 ∧ P b ∧ b < s.heap.objs.size) (σ := σ) ok (Keep.refl _ _) ok.stays ⟨fun i j b h1 h2 => h1.1.trans h2.1.symm, fun i b h => h.2.2, fun i b h hi => absurd h.1 hi, fun b h => h.2.1⟩ hlen (fun x sl hx => ?_) fun env h₁ tk₁ eN I hL k₁ sat SX _ => ?_
  · obtain ⟨v, as, g1, g2, g3, g4, g5⟩ := hlook x sl hx
    refine ⟨v, as, g1, g2, fun b hb => ?_, g4⟩
    have nf : sl.v.flat = false := by
      cases hf : sl.v.flat with
      | false => rfl
      | true => rw [VR.flat_nil g2 hf] at hb; cases hb
    rw [g5, nf]
    exact ⟨0, .head _, rfl, g3 b hb, VR.lt g2 b hb⟩
  · exact runs_sound SX fn.body h sat (fun σ' h' tk R' hq ke rx a' => hQ _ _ h' tk [] hq a'.entry Rd.none Fp.nil) (fun v fr val h' tk hq ret => let ⟨as, k', rv, fp, _⟩ := ret; hQ _ _ h' tk as hq k' rv fun b hb => (fp b hb).1) fun c e h' tk hc fl => leaves (s := s) I fl fun h₃ k₃ f => hE c e h₃ tk hc k₃ (f L)

theorem args_any {m k : Nat} {h : Heap} {P : Addr → Prop} {vs : List Value} {xs : List V} (r : VRsP (cx C G m) Z h P vs xs) : VRsP (cx C G k) Z h P vs xs := by
  induction r with
  | nil => exact .nil
  | cons r f _ ih => exact .cons r f ih
/-- every def of the text keeps its promise -/
theorem fns_sound (T : ∀ f fn, G.fns.lookup f = some fn → FnFact C f fn) (O : CxOk (cx C G 0)) : ∀ m q A n, m ≤ n → FnsOk ⟨cx C G m, q, A, n⟩
  | 0, q, A, n, _ => fun f hf => by
    obtain ⟨fn, hfn⟩ := Option.isSome_iff_exists.mp (show (G.fns.lookup f).isSome = true from hf)
    obtain ⟨a, o, fd, h1, h2, h3, _⟩ := (T f fn hfn).obj
    exact ⟨a, o, fd, h1, h2, h3, fun h => by
      have h' : pcall G 0 q f _ _ _ := h
      rw [pcall_zero] at h'
      exact h'.elim⟩
  | m + 1, q, A, 0, hn => absurd hn (Nat.not_succ_le_zero _)
  | m + 1, q, A, n + 1, hn => fun f hf => by
    obtain ⟨fn, hfn⟩ := Option.isSome_iff_exists.mp (show (G.fns.lookup f).isSome = true from hf)
    obtain ⟨a, o, fd, h1, h2, h3, _⟩ := (T f fn hfn).obj
    exact ⟨a, o, fd, h1, h2, h3, fun {xs s vs Z P L Qw Xw Q E} h ok args hQ hE => fn_call T O (fun q A n hn => fns_sound T O m q A n hn) (Nat.le_of_succ_le_succ hn) hfn h1 h ⟨let ⟨a, b, c, _, d⟩ := ok.fr; ⟨a :: b, c, d⟩, ok.fin, ok.stays, ok.hand, ok.depth, ok.units, ok.zin⟩ (args_any args) hQ hE⟩

end
end Mine
end

section
set_option maxRecDepth 100000
namespace Mine
open PySem PySem.W PySem.Calls PyProof.Rows

section
variable {prog : Program} {w : World} {A : Around} {E : Value → Shared → Prop} {s : Shared} {K : Frag} {x D : Addr} {ox : Obj}

theorem exc_class_attr {Q : Option Value → Shared → Prop} (X : K.In s.heap) (I : W.InstAt s.heap x ox D none) (hga : findIn K (.ref D) "__getattribute__" = some (some (.builtin "BaseException.__getattribute__"))) (hgt : findIn K (.ref D) "__getattr__" = some none)
    (hf : findObj K D none "__class__" = some (.bind (.builtin "getset_descriptor.__get__") (.builtin "object.__class__"))) (hm : mroIn K D (.type "object") = some true) (hmB : mroIn K D (.type "BaseException") = some true)
    (h : Q (some (.ref D)) { s with toks := s.toks + 1 }) : wpAny (model prog w) A (getAttr? (.ref x) "__class__") Q E s := by
  obtain ⟨hh, g, d, t, os⟩ := s
  have L0 := I.type (M := model prog w)
  have L1 := looks_findIn (M := model prog w) X hga
  have L2 := looks_findIn (M := model prog w) X hgt
  have L3 := looks_find (M := model prog w) X I hf
  have L4 := looks_mroIn (M := model prog w) X hmB
  have f3 := F.excAttr_ValueError.ga.bind (.ref x)
  unfold getAttr? getAttrBy? getAttrBy
  refine wpAny_bind (wpAny_mkText (wpAny_bind (wpAny_attempt (wpAny_holding (wpAny_bind (L0.at (wpAny_bind (L1.at ?_))))))))
  show wpAny _ _ (getAttrByItsOwn _ _ _ _ _ _) _ _ _
  unfold getAttrByItsOwn hookBefore
  refine wpAny_bind ?_
  rw [if_pos (by rfl)]
  refine L2.at ?_
  refine wpAny_bind (wpAny_attempt (wpAny_holding ?_))
  unfold callGetattribute
  rw [if_neg (by decide)]
  unfold boundAndCalled
  rw [f3]
  refine wpAny_bind (wpAny_pure ?_)
  refine wpAny_call (codeAny_call_builtin F.excAttr_ValueError.ga.plain F.entry_bexc_ga ?_)
  have hk : builtinKind "BaseException.__getattribute__" = some .slot := by decide +kernel
  have hsplit : splitId "BaseException.__getattribute__" = some ("BaseException", "__getattribute__") := by decide +kernel
  have ha := F.args_bexc_ga (.ref x) (.str "__class__" t)
  have hT5 : (⟨hh, g, d, t + 1, os⟩ : Shared).TypeIs (.builtin "object.__class__") "getset_descriptor" := F.typeOf_object_class
  simp only [checkBuiltinCall, hk, hsplit]
  refine wpAny_bind ?_
  unfold isInstance
  repeat lk
  refine wpAny_run (h := none) ?_
  refine class_get (s := ⟨hh, g, d, t + 1, os⟩) (ox := ox) (od := none) X I hm ?_
  exact wpAny_pure (wpAny_pure (handed_on rfl (wpAny_pure h)))

/-- what the top must say of an exception class -/
def excFit (K : Frag) (D : Addr) : Bool :=
  (match findIn K (.ref D) "__getattribute__" with | some (some (.builtin b)) => b == "BaseException.__getattribute__" | _ => false) &&
  (match findIn K (.ref D) "__getattr__" with | some none => true | _ => false) &&
  (match findObj K D none "__class__" with | some (.bind (.builtin b) (.builtin c)) => b == "getset_descriptor.__get__" && c == "object.__class__" | _ => false) &&
  (mroIn K D (.type "object") == some true) && (mroIn K D (.type "BaseException") == some true) && (clsIn K D).isSome

theorem kitx_exc (e : excFit K D = true) : KitX K (.ref x) (.ref D) (fun h => ∃ ox, W.InstAt h x ox D none) := by
  unfold excFit at e
  simp only [Bool.and_eq_true, beq_iff_eq] at e
  obtain ⟨⟨⟨⟨⟨e1, e2⟩, e3⟩, e4⟩, e5⟩, e6⟩ := e
  have hga : findIn K (.ref D) "__getattribute__" = some (some (.builtin "BaseException.__getattribute__")) := by
    split at e1
    · rename_i b hb; rw [hb, beq_iff_eq.mp e1]
    · cases e1
  have hgt : findIn K (.ref D) "__getattr__" = some none := by
    split at e2
    · rename_i hb; exact hb
    · cases e2
  have hf : findObj K D none "__class__" = some (.bind (.builtin "getset_descriptor.__get__") (.builtin "object.__class__")) := by
    split at e3
    · rename_i b c hb
      simp only [Bool.and_eq_true, beq_iff_eq] at e3
      rw [hb, e3.1, e3.2]
    · cases e3
  obtain ⟨cdD, hcD⟩ := Option.isSome_iff_exists.mp e6
  refine ⟨fun M h X ⟨ox, I⟩ => I.type, fun M h X _ => ?_, fun h tp dd its n sl X htp => ?_, fun X ⟨ox, I⟩ k => exc_class_attr X I hga hgt hf e4 e5 k⟩
  · unfold clsIn at hcD
    split at hcD
    · rename_i c' d' cd' sl' ho
      intro A' Q' E' s' k q
      unfold isType loadHead
      exact wpAny_bind (wpAny_loadPart (k _ _ (X _ _ ho)) (wpAny_pure q))
    · cases hcD
  · refine Bool.eq_false_iff.mpr fun q => ?_
    have e : D = tp := Value.ref.inj (beq_iff_eq.mp q)
    subst e
    unfold clsIn at hcD
    split at hcD
    · rename_i c' d' cd' sl' ho
      have z := (X _ _ ho).symm.trans htp
      cases z
    · cases hcD

end
end Mine
end

section
set_option maxRecDepth 100000
set_option linter.unusedVariables false
namespace Mine
open PySem PySem.Calls PyProof.Rows

theorem zip_lookup : ∀ (ns : List Str) (vs : List Value), vs.length = ns.length → ns.Nodup → ns.filterMap (fun n => ((ns.zip vs).lookup n).map (n, ·)) = ns.zip vs ∧ ∀ n ∈ ns, ((ns.zip vs).lookup n).isNone = false
  | [], [], _, _ => ⟨rfl, fun _ h => nomatch h⟩
  | [], _ :: _, h, _ => by simp at h
  | _ :: _, [], h, _ => by simp at h
  | n :: ns, v :: vs, h, hn => by
    rw [List.nodup_cons] at hn
    obtain ⟨h1, h2⟩ := zip_lookup ns vs (by simpa using h) hn.2
    have ne : ∀ m ∈ ns, (m == n) = false := fun m hm => by
      cases e : m == n with
      | false => rfl
      | true => exact absurd (eq_of_beq e ▸ hm) hn.1
    refine ⟨?_, fun m hm => ?_⟩
    · rw [List.zip_cons_cons, List.filterMap_cons]
      have : (List.lookup n ((n, v) :: ns.zip vs)) = some v := by rw [List.lookup_cons]; simp
      rw [this]
      simp only [Option.map_some]
      rw [← h1]
      congr 1
      have : ∀ (l : List Str), (∀ m ∈ l, (m == n) = false) → l.filterMap (fun m => (List.lookup m ((n, v) :: ns.filterMap (fun n => ((ns.zip vs).lookup n).map (n, ·)))).map (m, ·)) = l.filterMap (fun m => ((ns.zip vs).lookup m).map (m, ·)) := by
        intro l
        induction l with
        | nil => intro _; rfl
        | cons a r ih =>
          intro hl
          rw [List.filterMap_cons, List.filterMap_cons, ih fun m hm => hl m (.tail _ hm), List.lookup_cons, hl a (.head _), h1]
      rw [this ns ne]
    · rw [List.zip_cons_cons, List.lookup_cons]
      rcases List.mem_cons.mp hm with rfl | hm
      · simp
      · rw [ne m hm]; exact h2 m hm

theorem bind_plain {nm : Str} {as : List Arg} {body : List Stmt} {scope : Scope} {pm cd doc : Value} {vals : List Value} (hn : (as.map (·.arg)).Nodup) (hl : vals.length = (as.map (·.arg)).length) :
    bindArgs (docDef nm ⟨[], as, none, [], [], none, []⟩ body scope pm cd doc) ⟨vals, []⟩ = pure ((as.map (·.arg)).zip vals) := by
  obtain ⟨h1, h2⟩ := zip_lookup (as.map (·.arg)) vals hl hn
  unfold bindArgs
  simp only [docDef, List.map_nil, List.nil_append, List.forIn_nil, pure_bind, List.append_nil]
  have hs : seqItems? .none = pure none := rfl
  rw [hs]
  simp only [pure_bind, Option.getD_none, List.length_nil, Nat.sub_zero, List.drop_nil]
  have hg : ¬ (vals.length > (as.map (·.arg)).length) := by omega
  have hm : ((as.map (·.arg)).take (as.map (·.arg)).length).filter (fun n => (((as.map (·.arg)).zip vals).lookup n).isNone) = [] := by
    rw [List.take_length, List.filter_eq_nil_iff]
    intro a ha
    rw [h2 a ha]; decide
  simp only [hg, hm, decide_false, Bool.false_and, Bool.false_eq_true, if_false, List.isEmpty_nil, Bool.not_true, List.zip_nil_right, List.forIn_nil, pure_bind]
  rw [h1]

open PySem.W

def veBm : List Value := [.type "ValueError", .type "Exception", .type "BaseException", .type "object"]

def toFn (d : DefRec) : Str × Fn := (d.name, ⟨d.params.args.map (·.arg), d.scope.names, d.body⟩)

def okRec (d : DefRec) : Bool := (match d.params with | ⟨[], _, none, [], [], none, []⟩ => true | _ => false) && decide ((d.params.args.map (·.arg)).Nodup) && (d.params.args.map (·.arg)).all (storable d.scope.names) &&
  d.scope.names.all (fun y => y.2 != NameKind.free) && d.scope.kind == .function && !d.scope.isCoroutine && !d.scope.isGenerator

def clsAddr (K : Frag) (c : Str) : Addr := match nsIn K mainGlobals c with
  | some (some (.ref a)) => a
  | _ => 0

def okCls (K : Frag) (G : Prog) (cs : List (Str × Str)) : Bool := cs.all fun q =>
  (match nsIn K mainGlobals q.1 with | some (some (.ref a)) => excIn K a veBm "ValueError.__new__" && excFit K a | _ => false) && q.1 != "__debug__" && (biTab.lookup q.1).isNone && (G.fns.lookup q.1).isNone &&
  kitOne K (.ref (clsAddr K q.1)) (.type "ValueError") == some true &&
  cs.all fun r => kitOne K (.ref (clsAddr K q.1)) (.ref (clsAddr K r.1)) == some (G.sub q.1 r.1) && (!G.sub q.1 r.1 || exmOne K (.ref (clsAddr K q.1)) (.ref (clsAddr K r.1)) == some true)

def okNames (p : Program) (loose : List Str) : Bool := biTab.all fun q =>
  !startupNames.contains q.1 && !loose.contains q.1 && !((recsOf p).map (·.name)).contains q.1 && !((litsOf p).map (·.1)).contains q.1 && !((clssOf p loose).map (·.name)).contains q.1 && q.1 != "__name__"

def okConsts (p : Program) (cs : List (Str × PyData)) : Bool := cs.all fun q => match q.2, valOf p q.1 with
  | .int i, some (.int j) => i == j
  | _, _ => false

theorem boot_ok : (biTab.all fun q => bootBuiltins q.1 == some q.2) = true := by kernel_rfl

theorem lookup_all {α : Type} {f : Str × α → Bool} : ∀ {l : List (Str × α)}, l.all f = true → ∀ {x : Str} {v : α}, l.lookup x = some v → f (x, v) = true := fun h => fun {x v} e => List.all_eq_true.mp h (x, v) (PySem.mem_of_lookup e)

section
variable {p : Program} {loose : List Str} {mean : ExcName → Option Value} {mg mb : Str → Option Value} {h : Heap} {K : Frag} {prog : Program} {w : World} {body : List Stmt}

/-- what the top says, for the interpreter -/
def topCx (prog : Program) (w : World) (h : Heap) (mg mb : Str → Option Value) (K : Frag) (G : Prog) : Cx := ⟨prog, w, h, mg, mb, cfg G (pcall G 0), clsAddr K⟩

theorem top_fns (T : Top p loose mean mg mb h) (hf : fnsOf body = (recsOf p).map toFn) (hr : (recsOf p).all okRec = true) : ∀ f fn, (progOf body).fns.lookup f = some fn → FnFact (topCx prog w h mg mb K (progOf body)) f fn := by
  intro f fn hl
  have hl' : (fnsOf body).lookup f = some fn := hl
  rw [hf] at hl'
  obtain ⟨d, hd, he⟩ := List.mem_map.mp (PySem.mem_of_lookup hl')
  have hok := List.all_eq_true.mp hr d hd
  obtain ⟨a, o, pm, code, doc, h1, h2, h3, h4⟩ := T.fn d hd
  obtain ⟨nm, ⟨po, as, va, ko, kd, kw, df⟩, bd, sc, ps⟩ := d
  simp only [toFn, Prod.mk.injEq] at he
  obtain ⟨rfl, rfl⟩ := he
  simp only [okRec, Bool.and_eq_true, decide_eq_true_eq, Bool.not_eq_true', beq_iff_eq] at hok
  obtain ⟨⟨⟨⟨⟨⟨o1, o2⟩, o3⟩, o4⟩, o5⟩, o6⟩, o7⟩ := hok
  split at o1
  · rename_i heq
    cases heq
    refine ⟨⟨a, o, _, h1, h2, h3, rfl, rfl, o5, o6, o7, rfl, rfl, rfl, h4, fun vals hv => bind_plain o2 hv⟩, o2, fun p hp => List.all_eq_true.mp o3 p hp, fun x hx => ?_⟩
    have := List.all_eq_true.mp o4 _ (PySem.mem_of_lookup hx)
    simp at this
  · cases o1

theorem top_cxok (T : Top p loose mean mg mb h) (X : K.In h) (hn : okNames p loose = true) (hc : okConsts p (constsOf body) = true) (hcl : okCls K (progOf body) (clsOf body) = true) : CxOk (topCx prog w h mg mb K (progOf body)) := by
  have clsE : ∀ c, (progOf body).isCls c = true → ∃ b a, (clsOf body).lookup c = some b ∧ nsIn K mainGlobals c = some (some (.ref a)) ∧ clsAddr K c = a := fun c hcc => by
    obtain ⟨b, hb⟩ := Option.isSome_iff_exists.mp (show ((clsOf body).lookup c).isSome = true from hcc)
    have hq := lookup_all hcl hb
    simp only [Bool.and_eq_true] at hq
    have h0 := hq.1.1.1.1.1
    split at h0
    · rename_i a ha
      exact ⟨b, a, hb, ha, by unfold clsAddr; rw [ha]⟩
    · cases h0
  have clsF : ∀ c, (progOf body).isCls c = true → excIn K (clsAddr K c) veBm "ValueError.__new__" = true ∧ excFit K (clsAddr K c) = true ∧ (c == ("__debug__" : Str)) = false ∧ biTab.lookup c = none ∧ (progOf body).fns.lookup c = none ∧
      kitOne K (.ref (clsAddr K c)) (.type "ValueError") = some true ∧ ∀ r, (progOf body).isCls r = true → kitOne K (.ref (clsAddr K c)) (.ref (clsAddr K r)) = some ((progOf body).sub c r) ∧ ((progOf body).sub c r = true → exmOne K (.ref (clsAddr K c)) (.ref (clsAddr K r)) = some true) := fun c hcc => by
    obtain ⟨b, a, hb, ha, hca⟩ := clsE c hcc
    have hq := lookup_all hcl hb
    simp only [Bool.and_eq_true] at hq
    obtain ⟨⟨⟨⟨⟨q1, q2⟩, q3⟩, q4⟩, q5⟩, q6⟩ := hq
    simp only [ha, Bool.and_eq_true] at q1
    refine ⟨by rw [hca]; exact q1.1, by rw [hca]; exact q1.2, by simpa [bne] using q2, by simpa using q3, by simpa using q4, by simpa using q5, fun r hr => ?_⟩
    obtain ⟨b', a', hb', _, _⟩ := clsE r hr
    have hr' := lookup_all q6 hb'
    simp only [Bool.and_eq_true, Bool.or_eq_true, Bool.not_eq_true', beq_iff_eq] at hr'
    exact ⟨hr'.1, fun hs => hr'.2.resolve_left (by rw [hs]; decide)⟩
  refine ⟨T.g, T.b, T.nolimit, fun x d e => ?_, fun x v e h1 h2 => ?_, fun c hcc => ?_, fun c hcc => ?_, ?_, ?_⟩
  · have hq := lookup_all hc (show (constsOf body).lookup x = some d from e)
    cases d with
    | int i =>
      cases hv : valOf p x with
      | none => simp only [hv] at hq; cases hq
      | some dd =>
        cases dd with
        | int j =>
          simp only [hv] at hq
          have := eq_of_beq hq
          subst this
          obtain ⟨v, hv', hr⟩ := T.const x _ hv
          refine ⟨v, hv', ?_⟩
          cases hr h with
          | int i t => exact Rd.int _ _
        | _ => simp only [hv] at hq; cases hq
    | _ => cases hq
  · have hq := lookup_all hn e
    have hb := lookup_all boot_ok e
    simp only [Bool.and_eq_true, Bool.not_eq_true', beq_iff_eq] at hq hb
    obtain ⟨⟨⟨⟨⟨q1, q2⟩, q3⟩, q4⟩, q5⟩, q6⟩ := hq
    have nc : ∀ {l : List Str}, l.contains x = false → x ∉ l := fun hh m => by rw [List.contains_iff_mem.mpr m] at hh; cases hh
    exact ⟨T.free x (nc q1) (nc q2) (nc q3) (nc q4) (nc q5), (T.builtins x (by simpa [bne] using q6)).trans hb⟩
  · obtain ⟨b, a, hb, ha, hca⟩ := clsE c hcc
    obtain ⟨f1, f2, f3, f4, f5, f6, f7⟩ := clsF c hcc
    refine ⟨?_, f3, f4, ?_⟩
    · show mg c = some (.ref (clsAddr K c))
      rw [hca]; exact mg_of X T.g ha
    · show ((progOf body).fns.lookup c).isSome = false
      rw [f5]; rfl
  · obtain ⟨b, a, hb, ha, hca⟩ := clsE c hcc
    obtain ⟨f1, _⟩ := clsF c hcc
    refine ⟨"ValueError", "ValueError.__new__", "ValueError.__init__", veBm, ?_, F.excBase_ValueError⟩
    exact own_of_in X (topRead_of T) (by rw [ha, ← hca]; rfl) f1
  · intro c w' hc1 hc2 hs A s e o st he hcls Q E hq
    obtain ⟨_, _, _, _, _, _, f7⟩ := clsF c hc1
    have hx := (f7 w' hc2).2 hs
    have X' : K.In s.heap := X.keeps st
    have LT : Looks (model prog w) s.heap (typeOf (.ref e)) (.ref (clsAddr K c)) := by
      have hcls' : o.cls = .ref (clsAddr K c) := hcls
      exact hcls' ▸ (Looks.ld he).andThen .now
    exact (exm_one X' LT hx) A Q E s (fun b o e => e) hq
  · intro T' tv htv c b hb A s v st rv Q E hq
    obtain ⟨x, o, vs, rfl, ho, hdn, hcls, hd⟩ := rv
    have X' : K.In s.heap := X.keeps st
    have hcls' : o.cls = .ref (clsAddr K c) := hcls
    have I : W.InstAt s.heap x o (clsAddr K c) none := ⟨ho, hcls', by unfold notCls; rw [hd], by rw [hdn]; trivial⟩
    unfold isinst at hb
    simp only at hb
    split at hb
    · rename_i hc1
      obtain ⟨_, f2, _, _, _, f6, f7⟩ := clsF c hc1
      rcases htv with ⟨hT, rfl⟩ | ⟨hT, rfl, rfl⟩
      · rw [if_pos hT] at hb
        have := Option.some.inj hb
        subst this
        exact kia_one (kitx_exc f2) X' ⟨o, I⟩ (f7 T' hT).1 (by intro q; cases q) hq
      · rw [if_neg (by rw [hT]; decide)] at hb
        rw [if_pos (by decide)] at hb
        have := Option.some.inj hb
        subst this
        exact kia_one (kitx_exc f2) X' ⟨o, I⟩ f6 (by intro q; cases q) hq
    · cases hb

end
end Mine
end

section
set_option maxRecDepth 100000
set_option linter.unusedVariables false
namespace Mine
open PySem PySem.Calls PyProof.Rows PySem.W

section
variable {p : Program} {loose : List Str} {mean : ExcName → Option Value} {mg mb : Str → Option Value} {K : Frag} {prog : Program} {w : World} {body : List Stmt} {s : Shared}

theorem ints_rd {h : Heap} : ∀ {vs : List Value} {ns : List Int}, IntsAre vs ns → RdAll (fun _ => False) h vs (ns.map PyData.int) []
  | _, _, .nil => .nil
  | _, _, .cons n t r => .cons (Rd.int n t) (ints_rd r)

theorem ints_len : ∀ {vs : List Value} {ns : List Int}, IntsAre vs ns → vs.length = ns.length
  | _, _, .nil => rfl
  | _, _, .cons n t r => by rw [List.length_cons, List.length_cons, ints_len r]

/-- the law's call, by the interpreter's word -/
theorem law_runs (T : Top p loose mean mg mb s.heap) (X : K.In s.heap) (hf : fnsOf body = (recsOf p).map toFn) (hr : (recsOf p).all okRec = true) (hn : okNames p loose = true) (hc : okConsts p (constsOf body) = true) (hcl : okCls K (progOf body) (clsOf body) = true)
    {name : Str} {fa sc : Addr} (hm : mg name = some (.ref fa)) {vals : List Value} {ns : List Int} (hI : IntsAre vals ns) (hs : s.heap.get? sc = some { cls := .type "list", data := .seq vals.toArray }) (hlen : ns.length ≤ 63)
    (hp : pcall (progOf body) 30 false name [.dat (.list (ns.map .int))] (fun r => ∃ fl, r = (.dat (.bool true), fl)) fun _ => False) {Q : Value → Shared → Prop} {E : Value → Shared → Prop}
    (hQ : ∀ h' tk, (∀ b o, s.heap.get? b = some o → h'.get? b = some o) → Q (.bool true) { s with heap := h', toks := tk }) :
    wpAny (model prog w) callerA (call (.ref fa) [.ref sc]) Q E s := by
  have FF := top_fns (prog := prog) (w := w) (K := K) T hf hr
  have O0 : CxOk (cx (topCx prog w s.heap mg mb K (progOf body)) (progOf body) 0) := top_cxok T X hn hc hcl
  cases hl : (progOf body).fns.lookup name with
  | none =>
    rw [pcall_succ] at hp
    unfold pstep at hp
    rw [hl] at hp
    exact hp.elim
  | some fn =>
    have rl : Rd (fun _ => False) s.heap (.ref sc) (.list (ns.map .int)) [sc] := .list hs (by rw [sizeLine_eq]; have := ints_len hI; simp; omega) (by simpa using ints_rd hI)
    exact fn_call (L := none) FF O0 (m := 29) (n := 29) (q := false) (A := callerA) (Z := fun _ => False) (P := fun _ => True) (fun q A n hn => fns_sound FF O0 29 q A n hn) (Nat.le_refl _) hl hm hp ⟨⟨[], rfl, trivial⟩, (fun b hb => nomatch hb), fun _ _ e => e, fun _ => rfl, (by show callerA.depth + 30 < 900; decide), (by show callerA.units + 8*30 + 100 < 9900; decide), fun _ h => h.elim⟩ (.cons (x := .dat (.list (ns.map .int))) rl (fun _ _ => trivial) .nil)
      (fun x v h' tk as hx k rv _ => by
        obtain ⟨fl, rfl⟩ := hx
        cases rv with
        | bool b => exact hQ h' tk fun b o e => k.other b o e (fun m => nomatch m)) fun _ _ _ _ z => z.elim

end
end Mine
end

section
set_option maxRecDepth 100000
set_option linter.unusedVariables false
namespace Mine
open PySem PySem.Calls PyProof.Rows PySem.W

theorem well_list {P : Params} {h : Heap} {a : Addr} {xs : List PyData} {vals : List Value} (w : Well P h (.ref a) (ofPy (.list xs))) (hl : h.IsList a vals.toArray) : h.get? a = some { cls := .type "list", data := .seq vals.toArray } := by
  generalize he : ofPy (.list xs) = d at w
  cases w with
  | list hs _ =>
    obtain ⟨o, ho, hc, n, hd⟩ := hl
    rw [hs] at ho
    cases ho
    injection hd with h1 h2
    rw [hs, h1]
  | _ => simp [ofPy] at he

theorem good_true {l : OpenLaw} {cl : Str → Option Addr} {mean : ExcName → Option Value} {args : List WData} {s : Shared} {h' : Heap} {tk : Nat} (keep : ∀ b o, s.heap.get? b = some o → h'.get? b = some o) (hg : s.gens = #[]) :
    GoodWG l.row.claim cl mean args s (.ok (.ret (.bool true))) { s with heap := h', toks := tk } := by
  refine GoodW.toG ⟨.inl ⟨.bool true, .bool true, [], rfl, fun cls => ?_, ?_, ?_, fun _ => ⟨List.nodup_nil, fun a h => nomatch h⟩⟩, keep, rfl, hg⟩
  · rfl
  · exact .bool true
  · show (WShape.has [] (WData.bool true) .bool && WTm.holds [] (.eq .res (.lit (.bool true))) { args := args, res := some (.bool true), after := args }) = true
    have h1 : (WTm.eq .res (.lit (.bool true))).value [] { args := args, res := some (.bool true), after := args } = some (.bool (true == true)) := w_eq_bool (by simp [WTm.value]) (by simp [WTm.value])
    unfold WTm.holds
    rw [h1]
    simp [WShape.has, WShape.arms]
end Mine
end

section
set_option maxRecDepth 100000
namespace Mine
open PySem PySem.W PySem.Calls PyProof.Rows

/-- the heap's own objects, as a fragment -/
def fragAll (h : Heap) : Frag := (List.range h.objs.size).filterMap fun a => (h.get? a).map fun o => (a, o)

theorem mem_lookupN {α : Type} {a : Nat} {o : α} : ∀ {l : List (Nat × α)}, l.lookup a = some o → (a, o) ∈ l
  | [], e => nomatch e
  | (b, x) :: l, e => by
    rw [List.lookup_cons] at e
    cases hb : a == b with
    | true => rw [hb] at e; cases e; rw [eq_of_beq hb]; exact .head _
    | false => rw [hb] at e; exact .tail _ (mem_lookupN e)

theorem fragAll_in (h : Heap) : (fragAll h).In h := fun a o e => by
  have m := mem_lookupN e
  unfold fragAll at m
  obtain ⟨b, _, hb⟩ := List.mem_filterMap.mp m
  obtain ⟨x, hx, he⟩ := Option.map_eq_some_iff.mp hb
  cases he
  exact hx

/-- what the top must show of the text's own classes -/
def hook (body : List Stmt) : Hook :=
  ⟨Bool, fun s => okCls (fragAll s.heap) (progOf body) (clsOf body), fun _ => true, fun _ h => ∃ K : Frag, okCls K (progOf body) (clsOf body) = true ∧ K.In h,
    fun _ s e => ⟨_, e, fragAll_in s.heap⟩, fun _ _ _ ⟨K, e, X⟩ k => ⟨K, e, fun a o l => k a o (X a o l)⟩⟩

end Mine
end

section
set_option linter.unusedVariables false
namespace Mine
open PySem
variable {Z : Addr → Prop}

/-- does a name bear one of these regions -/
def hits (σ : Sg) (rg : List Nat) (y : Str) : Bool := match σ.lookup y with
  | some sl => sl.regs.any fun r => rg.contains r
  | none => false
/-- the names that bear none of these regions, without x -/
def dropS (rg : List Nat) (x : Option Str) (σ : Sg) : Sg := σ.filter fun p => !hits σ rg p.1 && !(some p.1 == x)
theorem dropS_lookup {rg : List Nat} {x : Option Str} {y : Str} {σ : Sg} {sl : Slot} (h : (dropS rg x σ).lookup y = some sl) : σ.lookup y = some sl ∧ (∀ r ∈ sl.regs, r ∉ rg) ∧ some y ≠ x := by
  unfold dropS at h
  rw [lookup_filter (f := fun z => !hits σ rg z && !(some z == x))] at h
  split at h
  · rename_i hb
    unfold hits at hb
    rw [h] at hb
    simp only [Bool.and_eq_true, Bool.not_eq_true', beq_eq_false_iff_ne, List.any_eq_false, List.contains_iff_mem] at hb
    exact ⟨h, hb.1, hb.2⟩
  · cases h
theorem dropS_get {rg : List Nat} {x : Option Str} {y : Str} {σ : Sg} {sl : Slot} (h : σ.lookup y = some sl) (h1 : ∀ r ∈ sl.regs, r ∉ rg) (h2 : some y ≠ x) : (dropS rg x σ).lookup y = some sl := by
  unfold dropS
  rw [lookup_filter (f := fun z => !hits σ rg z && !(some z == x)), if_pos, h]
  unfold hits
  rw [h]
  simp only [Bool.and_eq_true, Bool.not_eq_true', beq_eq_false_iff_ne, List.any_eq_false, List.contains_iff_mem]
  exact ⟨h1, h2⟩

section
variable {Y : Sx} {R R' : Nat → Addr → Prop} {σ : Sg} {s : Shared} {lk : List Nat} {x : WXv} {wl : WLv} {Qw : Out → Prop} {Xw : Str → Prop} {Q : Flow → Shared → Prop} {E : Value → Shared → Prop}

/-- what an expression may read, told name by name -/
theorem SAt.atRho (x : SAt Y Z R σ s) (I : Inn Y) {ρ : Rho} (h : ∀ z d, ρ.lookup z = some d → ∃ sl, σ.lookup z = some sl ∧ sl.v = d) : At Y.B Y.env Z (fun _ => True) ρ s :=
  ⟨x.ok, I.eok, let ⟨m, cm, hf, hv⟩ := x.vars; ⟨m, cm, hf, fun z d e => let ⟨sl, h1, h2⟩ := h z d e; let ⟨v, as, k1, k2, _, _⟩ := hv z sl h1; ⟨v, as, k1, h2 ▸ k2, fun _ _ => trivial⟩⟩⟩
/-- names and what they hold, apart from some regions -/
inductive RhoIn (σ : Sg) (rg : List Nat) : Rho → Prop
  | nil : RhoIn σ rg []
  | cons {x sl r} : σ.lookup x = some sl → (∀ q ∈ sl.regs, q ∉ rg) → RhoIn σ rg r → RhoIn σ rg ((x, sl.v) :: r)
theorem RhoIn.get {rg : List Nat} {ρ : Rho} (h : RhoIn σ rg ρ) : ∀ z d, ρ.lookup z = some d → ∃ sl, σ.lookup z = some sl ∧ sl.v = d ∧ ∀ q ∈ sl.regs, q ∉ rg := by
  induction h with
  | nil => exact fun _ _ e => nomatch e
  | @cons y sl r h1 h2 _ ih =>
    intro z d e
    rw [List.lookup_cons] at e
    cases hz : z == y with
    | true => rw [hz] at e; cases e; rw [eq_of_beq hz]; exact ⟨sl, h1, rfl, h2⟩
    | false => rw [hz] at e; exact ih z d e

/-- a list -/
def Lst (h : Heap) (b : Addr) : Prop := ∃ o vs m, h.get? b = some o ∧ o.cls = .type "list" ∧ o.data = .seq vs m
/-- all but these regions' lists stands -/
structure KeR (Y : Sx) (Z : Addr → Prop) (rg : List Nat) (R : Nat → Addr → Prop) (h h' : Heap) : Prop where
  kb : KeepB (fsOf Y.B.A) (fun b => Own Y.env b ∨ ((∃ r ∈ rg, R r b) ∧ Lst h b)) h h'
  tup : ∀ a vs m, ¬ Z a → h.get? a = some (tupObj vs m) → h'.get? a = some (tupObj vs m)
theorem KeR.trans {rg : List Nat} {h h' h'' : Heap} (x : KeR Y Z rg R h h') (y : KeR Y Z rg R h' h'') : KeR Y Z rg R h h'' := by
  have nw : ∀ b o, h.get? b = some o → ¬ (Own Y.env b ∨ ((∃ r ∈ rg, R r b) ∧ Lst h b)) → ¬ (Own Y.env b ∨ ((∃ r ∈ rg, R r b) ∧ Lst h' b)) := fun b o e n w => by
    rcases w with w | ⟨w, o', vs, m, e', hc, hd⟩
    · exact n (.inl w)
    · obtain ⟨sl, e2⟩ := x.kb.slots b o e n
      rw [e'] at e2; cases e2
      exact n (.inr ⟨w, o, vs, m, e, hc, hd⟩)
  exact ⟨⟨Nat.le_trans x.kb.size y.kb.size, fun b o e nf n => y.kb.other b o (x.kb.other b o e nf n) nf (nw b o e n), fun b o e n => let ⟨_, e1⟩ := x.kb.slots b o e n; let ⟨s2, e2⟩ := y.kb.slots b _ e1 (nw b o e n); ⟨s2, e2⟩⟩, fun a vs m nz e => y.tup a vs m nz (x.tup a vs m nz e)⟩
theorem KeR.mono {rg rg' : List Nat} {h h' : Heap} (x : KeR Y Z rg R h h') (i : ∀ r ∈ rg, r ∈ rg') : KeR Y Z rg' R h h' := ⟨x.kb.mono fun b _ q => q.imp id fun ⟨⟨r, hr, hR⟩, l⟩ => ⟨⟨r, i r hr, hR⟩, l⟩, x.tup⟩
theorem KeR.ofKeep {rg : List Nat} {h h' : Heap} (F : FramesIn (fsOf Y.B.A) h) (k : Keep (fsOf Y.B.A) h h') : KeR Y Z rg R h h' := ⟨KeepB.ofKeep k, fun a vs m _ e => k.other a _ e (F.not_seq e rfl)⟩

/-- the items of a list of lists, as they grow -/
def Grown (h : Heap) (R : Nat → Addr → Prop) (rg : List Nat) (D : Addr) (vs : Array Value) (k : Nat) : Prop :=
  ∀ v ∈ vs.toList, ∃ a ws m, v = .ref a ∧ a ≠ D ∧ (∃ r ∈ rg, R r a) ∧ h.get? a = some (lstObj ws m) ∧ ws.size + k ≤ 1048576
theorem grown_of {h : Heap} {R : Nat → Addr → Prop} {rg : List Nat} {D : Addr} {k : Nat} : ∀ {vs : List Value} {xs : List PyData} {as : List Addr}, RdAll Z h vs xs as → D ∉ as → (∀ a ∈ as, ∃ r ∈ rg, R r a) → (∀ d ∈ xs, ∃ ys, d = .list ys ∧ ys.length + k ≤ 1048576) →
    ∀ v ∈ vs, ∃ a ws m, v = .ref a ∧ a ≠ D ∧ (∃ r ∈ rg, R r a) ∧ h.get? a = some (lstObj ws m) ∧ ws.size + k ≤ 1048576
  | _, _, _, .nil, _, _, _, v, hv => nomatch hv
  | _, _, _, .cons (as := as) (bs := bs) a r, hD, hR, hx, v, hv => by
    rcases List.mem_cons.mp hv with rfl | hv
    · obtain ⟨ys, rfl, hy⟩ := hx _ (.head _)
      cases a with
      | list e z rr =>
        have := rr.length
        simp only [Array.length_toList] at this
        exact ⟨_, _, _, rfl, fun q => hD (q ▸ .head _), hR _ (.head _), e, by omega⟩
    · exact grown_of r (fun m => hD (List.mem_append_right _ m)) (fun b m => hR b (List.mem_append_right _ m)) (fun d m => hx d (.tail _ m)) v hv

/-- what stands ahead of the turn i -/
inductive GJ (Y : Sx) (Z : Addr → Prop) (R : Nat → Addr → Prop) (rg : List Nat) (σ : Sg) (s : Shared) (D It : Addr) (vs : Array Value) (c N : Nat) (k : Nat) (s' : Shared) : Prop
  | mk (h : Heap) (tk : Nat) (i : Nat) (e : s' = { s with heap := h, toks := tk }) (it : ∃ o, h.get? It = some o ∧ o.cls = .type "list_iterator" ∧ o.data = .fields #[.ref D, rawInt i]) (hD : h.get? D = some (lstObj vs c)) (g : Grown h R rg D vs (N - i)) (a : SAt Y Z R σ { s with heap := h, toks := tk }) (ke : KeR Y Z rg R s.heap h) (hi : i ≤ N) (hk : k = N + 1 - i)

/-- for x in y: x.append(e) -/
theorem run_ForApp (S : Sound Y.B wl) (I : Inn Y) {x y : Str} {px py pv apos cpos pos epos : Pos} {e : Expr} {xs : List PyData} {rg : List Nat} {tp : Option Nat} (a : SAt Y Z R σ s) (hq : Y.B.q = false) (hx : storable Y.env.scope.names x = true)
    (hd1 : (y == ("__debug__" : Str)) = false) (hd2 : (y == ("__classdict__" : Str)) = false) (hd3 : (x == ("__debug__" : Str)) = false) (hd4 : (x == ("__classdict__" : Str)) = false) (hline : (apos.endLine == cpos.line) = true)
    (hlk : σ.lookup y = some ⟨.dat (.list xs), rg, tp⟩) (hr0 : ∀ r ∈ rg, r ≠ 0) (hxs : ∀ d ∈ xs, ∃ ys, d = .list ys ∧ ys.length + xs.length ≤ 1048576) (he : wl.ev Y.env.scope.names [] e (fun _ => True) fun _ => False)
    (hN : ∀ h' tk, KeR Y Z rg R s.heap h' → SAt Y Z R (dropS rg (some x) σ) { s with heap := h', toks := tk } → Q .next { s with heap := h', toks := tk }) :
    wpAny Y.B.M Y.B.A (exec (.For (.Name x px) (.Name y py) [.Expr (.Call (.Attribute (.Name x pv) "append" apos) [e] [] cpos) epos] [] pos) Y.env) Q E s := by
  refine wpAny_For (a.name I hd1 hd2 hlk fun v sd hm => ?_) 
  obtain ⟨as0, rv, fp, _⟩ := sd
  cases rv with
  | @list D vs c _ as ho hz rr =>
  have hns : D ∉ as := Rd.noself ho hz rr
  have hlen : vs.size = xs.length := by have := rr.length; simpa using this
  have hh := a.ok.hand hq
  refine wpAny_pyIter_list (IsL.isList ho) ?_
  have hsz : (s.heap.push { cls := .type "list_iterator", data := .fields #[.ref D, .int 0 0] }).objs.size = s.heap.objs.size + 1 := Heap.size_push ..
  have k0 : Keep (fsOf Y.B.A) s.heap (s.heap.push { cls := .type "list_iterator", data := .fields #[.ref D, .int 0 0] }) := Keep.push _ _ _
  have aK : SAt Y Z R (dropS rg (some x) σ) s := ⟨a.ok, a.entry, a.vars.map (fun _ _ f => f) (fun z sl e => (dropS_lookup e).1) (fun _ _ _ _ _ _ q => q) id, a.regs⟩
  have oldIt : ∀ b o, s.heap.get? b = some o → b ≠ s.heap.objs.size := fun b o e q => Nat.lt_irrefl _ (q ▸ Heap.lt_size e)
  have nFr : s.heap.objs.size ∉ fsOf Y.B.A := fun m => let ⟨o, _, _, ho, _⟩ := a.ok.fin _ m; oldIt _ o ho rfl
  have nOwn : ¬ Own Y.env s.heap.objs.size := fun o => Nat.lt_irrefl _ (a.old o)
  have nR : ∀ i, ¬ R i s.heap.objs.size := fun i h => Nat.lt_irrefl _ (a.regs.rin i _ h).1
  refine codeAny_forLoop_any (GJ Y Z R rg (dropS rg (some x) σ) s D s.heap.objs.size vs c xs.length) ?_ (xs.length + 1) ⟨_, s.toks, 0, rfl, ⟨_, Heap.get?_push_size _ rfl, rfl, rfl⟩, push_stays _ _ _ _ ho, fun v hv => ?_, aK.keep I k0, KeR.ofKeep a.ok.fin k0, Nat.zero_le _, rfl⟩
  rotate_left
  · obtain ⟨b, ws, m, h1, h2, h3, h4, h5⟩ := grown_of rr hns (fun b hb => fp b (.tail _ hb)) hxs v hv
    exact ⟨b, ws, m, h1, h2, h3, push_stays _ _ _ _ h4, h5⟩
  rintro k s' ⟨h, tk, i, rfl, it, hD, g, a', ke, hi, rfl⟩
  -- the iterator writes itself
  have own_step : ∀ {h₃ : Heap} {tk₃ : Nat}, But [s.heap.objs.size] h h₃ → SAt Y Z R (dropS rg (some x) σ) { s with heap := h₃, toks := tk₃ } ∧ KeR Y Z rg R s.heap h₃ := fun {h₃ tk₃} b₃ => by
    have nw : ∀ b o, s.heap.get? b = some o → b ∉ [s.heap.objs.size] := fun b o e m => oldIt b o e (List.mem_singleton.mp m)
    refine ⟨SAt.keepB (s := { s with heap := h, toks := tk }) a' I (W := fun b => b ∈ [s.heap.objs.size]) (KeepB.exact b₃.size fun b o nw e => b₃.keep b o nw e) fun b hb => ?_, ⟨⟨Nat.le_trans ke.kb.size b₃.size, fun b o e nf nW => b₃.keep b o (nw b o e) (ke.kb.other b o e nf nW), fun b o e nW => let ⟨sl, e'⟩ := ke.kb.slots b o e nW; ⟨sl, b₃.keep b _ (nw b o e) e'⟩⟩, fun b vs m nz e => b₃.keep b _ (nw b _ e) (ke.tup b vs m nz e)⟩⟩
    cases List.mem_singleton.mp hb
    obtain ⟨o, ho', hc, hd⟩ := it
    refine ⟨a.entry.size, nOwn, nFr, fun _ vs m e => ?_, fun o' vs c' e hd' hc' => ?_, fun z sl _ j _ => nR j⟩
    · have e' : h.get? s.heap.objs.size = _ := e
      rw [ho'] at e'; cases e'; simp at hc
    · have e' : h.get? s.heap.objs.size = _ := e
      rw [ho'] at e'; cases e'; rw [hc] at hc'; cases hc'
  by_cases hlt : i < xs.length
  · obtain ⟨v, hv⟩ : ∃ v, vs[i]? = some v := ⟨vs[i]'(by omega), by simp [hlen, hlt]⟩
    refine wpAny_pyNext_list_item it (IsL.isList hD) (x := v) hv fun h₁ hit' hs' => ?_
    have b₁ := but_of hs'
    obtain ⟨a₁, ke₁⟩ := own_step (tk₃ := tk) b₁
    refine wpAny_pure (wpAny_assign_Name (store_gen a₁ I hx (σ' := dropS rg (some x) σ) (fun z sl e => .inr ⟨fun q => (dropS_lookup e).2.2 (q ▸ rfl), e⟩) fun h₂ tk₂ kb₂ tup₂ a₂ hm₂ => ?_))
    obtain ⟨m₂, cm₂, hf₂, hv₂⟩ := hm₂
    obtain ⟨b, ws, m, rfl, hbD, ⟨r, hr, hR⟩, hob, hsz'⟩ := g v (by rw [Array.mem_toList_iff]; exact Array.mem_of_getElem? hv)
    have nOwnB : ¬ Own Y.env b := (a.regs.rin r b hR).2
    have bIt : b ≠ s.heap.objs.size := fun q => nR r (q ▸ hR)
    have notW : ∀ b' o', h₁.get? b' = some o' → ¬ Own Y.env b' → b' ∉ fsOf Y.B.A → h₂.get? b' = some o' := fun b' o' e n1 n2 => kb₂.other b' o' e n2 n1
    have lstStep : ∀ {b' : Addr} {ws' : Array Value} {m' : Nat}, b' ≠ s.heap.objs.size → ¬ Own Y.env b' → h.get? b' = some (lstObj ws' m') → h₂.get? b' = some (lstObj ws' m') := fun n1 n2 e => by
      have e1 := b₁.keep _ _ (fun q => n1 (List.mem_singleton.mp q)) e
      exact notW _ _ e1 n2 (a₁.ok.fin.not_seq e1 rfl)
    have hob₂ : h₂.get? b = some (lstObj ws m) := lstStep bIt nOwnB hob
    have p0 : rhoOf (pick (dropS rg (some x) σ) []) = [] := by simp [pick, rhoOf]
    have hstar : backTo cpos (starEach [e] Y.env) = [(false, eval e Y.env)] := by rw [starEach_cons S he]; rfl
    refine wpAny_execs_cons (wpAny_Expr (wpAny_Call_append rfl (by rw [hstar]; rfl) hline hstar (name_val I.eok hf₂ hv₂ hd3 hd4 ⟨b, ws, rfl, ⟨_, m, hob₂, rfl, rfl, rfl⟩, S.ev (Nat.le_refl _) he (p0 ▸ a₂.at I []) (fun w u h₃ tk₃ as₃ _ k₃ ru fu => ?_) (fun _ _ _ _ z => z.elim)⟩)) (by unfold interactive; rw [I.eok.kind]; rfl) rfl)
    have a₃ := a₂.keep I (tk := tk₃) k₃
    have keepL : ∀ {b' : Addr} {ws' : Array Value} {m' : Nat}, h₂.get? b' = some (lstObj ws' m') → h₃.get? b' = some (lstObj ws' m') := fun e => k₃.other _ _ e (a₂.ok.fin.not_seq e rfl)
    have hob₃ := keepL hob₂
    refine wpAny_sized (wpAny_list_append_plain (items := ws) ⟨m, hob₃⟩ (fun h₄ hpl hsb hsz₄ => wpAny_execs_nil ?_) (by rw [sizeLine_eq]; omega))
    obtain ⟨n₄, hob₄⟩ := hpl
    have kb₄ : KeepB (fsOf Y.B.A) (fun z => z = b) h₃ h₄ := KeepB.exact hsz₄ fun b' o' nw e => hsb.extBut b' o' nw e
    have nTup : ∀ vs m, h₃.get? b ≠ some (tupObj vs m) := fun vs m e => by
      rw [hob₃] at e; have := congrArg (fun o : Option Obj => o.map (·.cls)) e; simp at this
    have a₄ : SAt Y Z R (dropS rg (some x) σ) { s with heap := h₄, toks := tk₃ } := SAt.keepB (s := { s with heap := h₃, toks := tk₃ }) a₃ I kb₄ fun b' q => by
      subst q
      exact ⟨a.regs.rnew r _ hR (hr0 r hr), nOwnB, a₃.ok.fin.not_seq hob₃ rfl, fun _ => nTup, (fun o vs c e hd => by have e' : h₃.get? _ = some o := e; rw [hob₃] at e'; cases e'; cases hd), fun z sl e j hj hRj => (dropS_lookup e).2.1 j hj (a.regs.apart j r _ hRj hR ▸ hr)⟩
    have ke₄ : KeR Y Z rg R s.heap h₄ := ke₁.trans (KeR.trans ⟨kb₂.mono fun _ _ o => .inl o, fun a vs m _ e => tup₂ a vs m e⟩ (KeR.trans (KeR.ofKeep a₂.ok.fin k₃) ⟨kb₄.mono fun b' _ q => .inr (by subst q; exact ⟨⟨r, hr, hR⟩, _, _, _, hob₃, rfl, rfl⟩), fun b' vs m _ e => kb₄.other b' _ e (a₃.ok.fin.not_seq e rfl) fun q => nTup vs m (q ▸ e)⟩))
    have DR : ∃ r ∈ rg, R r D := fp D (.head _)
    obtain ⟨rD, hrD, hRD⟩ := DR
    refine ⟨xs.length + 1 - (i + 1), by omega, h₄, tk₃, i + 1, rfl, ?_, ?_, fun v' hv' => ?_, a₄, ke₄, hlt, rfl⟩
    · obtain ⟨o, ho', hc, hd⟩ := hit'
      have e2 := notW _ o ho' nOwn nFr
      exact ⟨o, hsb.extBut _ _ (Ne.symm bIt) (k₃.other _ _ e2 nFr), hc, hd⟩
    · exact hsb.extBut _ _ (Ne.symm hbD) (keepL (lstStep (fun q => nR rD (q ▸ hRD)) (a.regs.rin rD D hRD).2 hD))
    · obtain ⟨b', ws', m', rfl, h2, ⟨r', hr', hR'⟩, h4, h5⟩ := g v' hv'
      by_cases hbb : b' = b
      · subst hbb
        rw [hob] at h4
        cases h4
        exact ⟨b', _, _, rfl, h2, ⟨r', hr', hR'⟩, hob₄, by rw [Array.size_push]; omega⟩
      · exact ⟨b', ws', m', rfl, h2, ⟨r', hr', hR'⟩, hsb.extBut _ _ hbb (keepL (lstStep (fun q => nR r' (q ▸ hR')) (a.regs.rin r' b' hR').2 h4)), by omega⟩
  · have hie : i = xs.length := by omega
    have hno : vs[i]? = none := by rw [hie, ← hlen]; simp
    refine wpAny_sized (wpAny_pyNext_list_end hh it (IsL.isList hD) hno fun h₁ he' hsz₁ => ?_)
    obtain ⟨a₁, ke₁⟩ := own_step (tk₃ := tk) ⟨fun b o hb x => he' b o (fun q => hb (by rw [q]; exact .head _)) x, hsz₁⟩
    exact wpAny_execs_nil (hN h₁ tk ke₁ a₁)

end
end Mine
end

section
set_option linter.unusedVariables false
namespace Mine
open PySem
variable {Z : Addr → Prop}

theorem Keep.more {fs fs' : List Addr} {h h' : Heap} (x : Keep fs h h') (i : ∀ b ∈ fs, b ∈ fs') : Keep fs' h h' := ⟨x.size, fun b o e n => x.other b o e fun m => n (i b m), x.slots⟩

def okNm (y : Str) : Bool := !(y == "__debug__") && !(y == "__classdict__")
theorem okNm_elim {y : Str} (h : okNm y = true) : (y == ("__debug__" : Str)) = false ∧ (y == ("__classdict__" : Str)) = false := by
  unfold okNm at h
  simpa using h
/-- the three arguments' names -/
def sg3 (l t d : Str) (la lb : List PyData) (dc : PyData) (ra rb rc : List Nat) : Sg := [(l, ⟨.dat (.list la), ra, none⟩), (t, ⟨.dat (.list lb), rb, none⟩), (d, ⟨.dat dc, rc, none⟩)]
/-- a def that appends to the lists of its first two arguments, once it has held the second against the third -/
inductive OwnFn (wl : WLv) (fn : Fn) (la lb : List PyData) (dc : PyData) (ra rb rc : List Nat) : Prop
  | mk (l t d x : Str) (p1 p2 p3 p4 p5 p6 p7 p8 p9 p10 p11 p12 p13 p14 p15 p16 p17 : Pos) (k : Nat) (e1 e2 c : Expr) (th : List Stmt) (hps : fn.params = [l, t, d])
    (hb : fn.body = [.For (.Name x p1) (.Name l p2) [.Expr (.Call (.Attribute (.Name x p3) "append" p4) [e1] [] p5) p6] [] p7, .If c th [] p8, .For (.Name x p9) (.Name t p10) [.Expr (.Call (.Attribute (.Name x p11) "append" p12) [e2] [] p13) p14] [] p15, .Return (some (.Constant (.bool true) k p16)) p17])
    (hx : storable fn.names x = true) (ok : (okNm l && okNm t && okNm x && (p4.endLine == p5.line) && (p12.endLine == p13.line)) = true) (nd : (l ≠ t ∧ l ≠ d ∧ t ≠ d))
    (he1 : wl.ev fn.names [] e1 (fun _ => True) fun _ => False) (he2 : wl.ev fn.names [] e2 (fun _ => True) fun _ => False)
    (hc : wl.cond fn.names [(t, .dat (.list lb)), (d, .dat dc)] c (fun b => b = false) fun _ => False) (tx : t ≠ x) (dx : d ≠ x) (db : ∀ r ∈ rb, r ∉ ra) (dr : ∀ r ∈ rc, r ∉ ra)
/-- what its lists must be -/
structure OwnOk (la lb : List PyData) (ra rb : List Nat) : Prop where
  ra0 : ∀ r ∈ ra, r ≠ 0
  rb0 : ∀ r ∈ rb, r ≠ 0
  la : ∀ d ∈ la, ∃ ys, d = .list ys ∧ ys.length + la.length ≤ 1048576
  lb : ∀ d ∈ lb, ∃ ys, d = .list ys ∧ ys.length + lb.length ≤ 1048576

section
variable {C : Cx} {G : Prog}

set_option maxHeartbeats 400000 in
theorem own_call (T : ∀ f fn, G.fns.lookup f = some fn → FnFact C f fn) (O : CxOk (cx C G 0)) {m : Nat} (ih : ∀ q A n, m ≤ n → FnsOk ⟨cx C G m, q, A, n⟩) {A : Around} {n : Nat} (hn : m ≤ n) {f : Str} {fn : Fn} (hl : G.fns.lookup f = some fn) {a : Addr} (hma : C.mg f = some (.ref a))
    {la lb : List PyData} {dc : PyData} {ra rb rc : List Nat} (F : OwnFn (wlev (cfg G (pcall G m)) false 40) fn la lb dc ra rb rc) (W : OwnOk la lb ra rb) {s : Shared} {va vb vc : Value} {as bs cs : List Addr} {Z P₀ : Addr → Prop} {h₀ : Heap} {R : Nat → Addr → Prop} {Q E : Value → Shared → Prop} (ok : OkT ⟨C, false, A, n + 1⟩ Z s.heap) (hk0 : Keep (fsOf A) h₀ s.heap) (hb0 : C.hb.StaysIn h₀) (rg : Regs0 R h₀ s.heap P₀)
    (xa : Rd Z s.heap va (.list la) as) (xa' : ∀ b ∈ as, ∃ r ∈ ra, R r b) (xb : Rd Z s.heap vb (.list lb) bs) (xb' : ∀ b ∈ bs, ∃ r ∈ rb, R r b) (xc : Rd Z s.heap vc dc cs) (xc' : ∀ b ∈ cs, ∃ r ∈ rc, R r b)
    (hQ : ∀ h' tk, KeepB (fsOf A) (fun b => (∃ r ∈ ra ++ rb, R r b) ∧ Lst s.heap b) s.heap h' → Q (.bool true) { s with heap := h', toks := tk }) : wpAny (model C.prog C.w) A (call (.ref a) [va, vb, vc]) Q E s := by
  generalize hw : wlev (cfg G (pcall G m)) false 40 = wl at F
  obtain ⟨l, t, d, x, p1, p2, p3, p4, p5, p6, p7, p8, p9, p10, p11, p12, p13, p14, p15, p16, p17, kk, e1, e2, c, th, hps, hb, hx, hok, nd, he1, he2, hc, tx, dx, db, dr⟩ := F
  simp only [Bool.and_eq_true] at hok
  obtain ⟨⟨⟨⟨o1, o2⟩, o3⟩, o4⟩, o5⟩ := hok
  have o1 := okNm_elim o1
  have o2 := okNm_elim o2
  have o3 := okNm_elim o3
  have look : ∀ z sl, (sg3 l t d la lb dc ra rb rc).lookup z = some sl → ArgS (cx C G m) Z R s.heap (fn.params.zip [va, vb, vc]) z sl := fun z sl e => by
    unfold sg3 at e
    rw [hps]
    rw [List.lookup_cons] at e
    cases h1 : z == l with
    | true => rw [h1] at e; cases e; rw [eq_of_beq h1]; exact ⟨va, as, .head _, xa, xa', rfl⟩
    | false =>
      rw [h1, List.lookup_cons] at e
      cases h2 : z == t with
      | true => rw [h2] at e; cases e; rw [eq_of_beq h2]; exact ⟨vb, bs, .tail _ (.head _), xb, xb', rfl⟩
      | false =>
        rw [h2, List.lookup_cons] at e
        cases h3 : z == d with
        | true => rw [h3] at e; cases e; rw [eq_of_beq h3]; exact ⟨vc, cs, .tail _ (.tail _ (.head _)), xc, xc', rfl⟩
        | false => rw [h3] at e; cases e
  refine fn_enter T O ih hn hl hma (σ := sg3 l t d la lb dc ra rb rc) ok hk0 hb0 rg (by rw [hps]; rfl) look fun env h₁ tk₁ eN I hL k₁ sat _ ownGe => ?_
  have S : Sound (callSx C G m false A n h₀ P₀ env).B wl := hw ▸ Sound.lev (X := (callSx C G m false A n h₀ P₀ env).B) (O.any m) (ih false (A.deeper env) n hn) 40
  rw [← eN] at hx he1 he2 hc
  rw [hb]
  have hl1 : (sg3 l t d la lb dc ra rb rc).lookup l = some ⟨.dat (.list la), ra, none⟩ := by unfold sg3; rw [List.lookup_cons]; simp
  have g2 : (sg3 l t d la lb dc ra rb rc).lookup t = some ⟨.dat (.list lb), rb, none⟩ := by
    unfold sg3
    rw [List.lookup_cons, show (t == l) = false by simpa using Ne.symm nd.1, List.lookup_cons]; simp
  have g3 : (sg3 l t d la lb dc ra rb rc).lookup d = some ⟨.dat dc, rc, none⟩ := by
    unfold sg3
    rw [List.lookup_cons, show (d == l) = false by simpa using Ne.symm nd.2.1, List.lookup_cons, show (d == t) = false by simpa using Ne.symm nd.2.2, List.lookup_cons]; simp
  have hl2 := dropS_get (rg := ra) (x := some x) g2 db fun q => tx (Option.some.inj q)
  have hl3 := dropS_get (rg := ra) (x := some x) g3 dr fun q => dx (Option.some.inj q)
  have rin : ∀ z v, ([(t, V.dat (.list lb)), (d, V.dat dc)] : Rho).lookup z = some v → ∃ sl, (dropS ra (some x) (sg3 l t d la lb dc ra rb rc)).lookup z = some sl ∧ sl.v = v := fun z v e => by
    rw [List.lookup_cons] at e
    cases h1 : z == t with
    | true => rw [h1] at e; cases e; rw [eq_of_beq h1]; exact ⟨_, hl2, rfl⟩
    | false =>
      rw [h1, List.lookup_cons] at e
      cases h2 : z == d with
      | true => rw [h2] at e; cases e; rw [eq_of_beq h2]; exact ⟨_, hl3, rfl⟩
      | false => rw [h2] at e; cases e
  refine wpAny_execs_cons (run_ForApp (Y := callSx C G m false A n h₀ P₀ env) S I sat rfl hx o1.1 o1.2 o3.1 o3.2 o4 hl1 W.ra0 W.la he1 fun h₂ tk₂ ke₂ a₂ => ?_)
  refine wpAny_execs_cons (wpAny_If (S.cond hc (a₂.atRho I rin) (fun b h₃ tk₃ hb₃ k₃ => ?_) fun _ _ _ _ z => z.elim))
  subst hb₃
  have a₃ := a₂.keep I (tk := tk₃) k₃
  refine wpAny_execs_nil (wpAny_execs_cons (run_ForApp (Y := callSx C G m false A n h₀ P₀ env) S I a₃ rfl hx o2.1 o2.2 o3.1 o3.2 o5 hl2 W.rb0 W.lb he2 fun h₄ tk₄ ke₄ a₄ => ?_))
  refine wpAny_execs_cons (wpAny_Return_some fun _ _ _ => hQ h₄ tk₄ ?_)
  have ke := ((KeR.mono ke₂ (rg' := ra ++ rb) fun r hr => List.mem_append_left _ hr).trans (KeR.ofKeep a₂.ok.fin k₃)).trans (KeR.mono ke₄ (rg' := ra ++ rb) fun r hr => List.mem_append_right _ hr)
  have fs : fsOf (A.deeper env) = env.locals :: fsOf A := I.fs
  have kb := ke.kb
  have nO : ∀ b o, s.heap.get? b = some o → ¬ Own env b := fun b o e w => absurd (Heap.lt_size e) (Nat.not_lt.mpr (ownGe b w))
  have nW : ∀ b o, s.heap.get? b = some o → ¬ ((∃ r ∈ ra ++ rb, R r b) ∧ Lst s.heap b) → ¬ (Own env b ∨ ((∃ r ∈ ra ++ rb, R r b) ∧ Lst h₁ b)) := fun b o e n w => by
    rcases w with w | ⟨w, o', vs, m', e', hc', hd⟩
    · exact nO b o e w
    · obtain ⟨sl, e2⟩ := k₁.slots b o e
      rw [e'] at e2; cases e2
      exact n ⟨w, o, vs, m', e, hc', hd⟩
  refine ⟨Nat.le_trans k₁.size kb.size, fun b o e nf n => kb.other b o (k₁.other b o e nf) (fun q => ?_) (nW b o e n), fun b o e n => let ⟨_, e1⟩ := k₁.slots b o e; let ⟨s2, e2⟩ := kb.slots b _ e1 (nW b o e n); ⟨s2, e2⟩⟩
  rcases List.mem_cons.mp (fs ▸ q) with q | q
  · exact absurd (Heap.lt_size e) (Nat.not_lt.mpr (q ▸ hL))
  · exact nf q

/-- return f(a, b, c) and e -/
theorem run_Own (T : ∀ f fn, G.fns.lookup f = some fn → FnFact C f fn) (O : CxOk (cx C G 0)) {m : Nat} (ih : ∀ q A n, m ≤ n → FnsOk ⟨cx C G m, q, A, n⟩) {A : Around} {n : Nat} (hn : m ≤ n) {f : Str} {fn : Fn} (hl : G.fns.lookup f = some fn)
    {Y : Sx} {wl : WLv} (hB : Y.B = ⟨cx C G (m + 1), false, A, n + 1⟩) (S : Sound Y.B wl) (I : Inn Y) {R : Nat → Addr → Prop} {σ : Sg} {s : Shared} (a : SAt Y Z R σ s) {na nb nc : Str} {pf pa pb pc pcl pbo pos : Pos} {e : Expr} (hf : glob Y.env.scope.names f = true) (hn4 : (okNm f && okNm na && okNm nb && okNm nc) = true)
    {la lb : List PyData} {dc : PyData} {ra rb rc : List Nat} {ta tb tc : Option Nat} (h1 : σ.lookup na = some ⟨.dat (.list la), ra, ta⟩) (h2 : σ.lookup nb = some ⟨.dat (.list lb), rb, tb⟩) (h3 : σ.lookup nc = some ⟨.dat dc, rc, tc⟩)
    (F : OwnFn (wlev (cfg G (pcall G m)) false 40) fn la lb dc ra rb rc) (W : OwnOk la lb ra rb) {ρ : Rho} (hρ : RhoIn σ (ra ++ rb) ρ) (he : wl.ev Y.env.scope.names ρ e (fun r => r.1 = .dat (.bool true)) fun _ => False)
    {Q : Flow → Shared → Prop} {E : Value → Shared → Prop} (hQ : ∀ h' tk, Keep Y.fs₀ Y.h₀ h' → Q (.ret (.bool true)) { s with heap := h', toks := tk }) :
    wpAny Y.B.M Y.B.A (exec (.Return (some (.BoolOp .And [.Call (.Name f pf) [.Name na pa, .Name nb pb, .Name nc pc] [] pcl, e] pbo)) pos) Y.env) Q E s := by
  simp only [Bool.and_eq_true] at hn4
  obtain ⟨⟨⟨o0, o1⟩, o2⟩, o3⟩ := hn4
  have o0 := okNm_elim o0
  have o1 := okNm_elim o1
  have o2 := okNm_elim o2
  have o3 := okNm_elim o3
  obtain ⟨fa, o, fd, hm, ho, hdata, _⟩ := (T f fn hl).obj
  have hA : Y.B.A = A := by rw [hB]
  have hC : Y.B.C = cx C G (m + 1) := by rw [hB]
  have hM : Y.B.M = model C.prog C.w := by unfold Bx.M; rw [hC]; rfl
  refine wpAny_Return_some ?_
  show wpAny Y.B.M Y.B.A (do
      let v ← eval (.Call (.Name f pf) [.Name na pa, .Name nb pb, .Name nc pc] [] pcl) Y.env
      standAt pbo
      let t ← holding [v] (truthy v)
      match BoolOp.And, t with
      | .And, false | .Or, true => pure v
      | _, _ => boolOp pbo .And (evalEach [e] Y.env)) _ _ s
  refine wpAny_bind (wpAny_Call_ofName ((a.at I []).global (hC ▸ O.any (m + 1)) hf (v := .ref fa) (by rw [hC]; exact hm) o0.1 ?_))
  refine Calls.callWith_function (o := o) (fd := fd) ?_
  show wpAny _ _ (evalArgs _ true [(false, eval (.Name na pa) Y.env), (false, eval (.Name nb pb) Y.env), (false, eval (.Name nc pc) Y.env)] []) _ _ _
  refine Calls.evalArgs_plain (Calls.spliced_cons (a.name I o1.1 o1.2 h1 fun va sa _ => Calls.spliced_cons (a.name I o2.1 o2.2 h2 fun vb sb _ => Calls.spliced_cons (a.name I o3.1 o3.2 h3 fun vc sc _ => Calls.spliced_nil ⟨⟨a.ok.stays _ _ (by rw [hC]; exact ho), hdata⟩, ?_⟩))))
  obtain ⟨as, xa, xa', _⟩ := sa
  obtain ⟨bs, xb, xb', _⟩ := sb
  obtain ⟨cs, xc, xc', _⟩ := sc
  have okT : OkT ⟨C, false, A, n + 1⟩ Z s.heap := by
    have ok := a.ok
    rw [hB] at ok
    exact ⟨let ⟨a, b, c, _, d⟩ := ok.fr; ⟨a :: b, c, d⟩, ok.fin, ok.stays, ok.hand, ok.depth, ok.units, ok.zin⟩
  have hb0 : C.hb.StaysIn Y.h₀ := by have := I.hb0; rw [hC] at this; exact this
  have kA : Keep (fsOf A) Y.h₀ s.heap := a.entry.more fun b hb => by rw [← hA, I.fs]; exact .tail _ hb
  rw [hM, hA]
  refine own_call T O ih hn hl hm F W (P₀ := Y.P₀) (R := R) okT kA hb0 ⟨a.regs.apart, fun i b h => (a.regs.rin i b h).1, a.regs.rnew, a.regs.rP⟩ xa xa' xb xb' xc xc' fun h' tk kb => ?_
  refine wpAny_bind (wpAny_standAt (wpAny_bind (wpAny_holding (wpAny_truthy_bool ?_))))
  show wpAny _ _ (boolOp pbo .And (evalEach [e] Y.env)) _ _ _
  have aK : SAt Y Z R (dropS (ra ++ rb) none σ) s := ⟨a.ok, a.entry, a.vars.map (fun _ _ f => f) (fun z sl e => (dropS_lookup e).1) (fun _ _ _ _ _ _ q => q) id, a.regs⟩
  have nz : ∀ r ∈ ra ++ rb, r ≠ 0 := fun r hr => (List.mem_append.mp hr).elim (W.ra0 r) (W.rb0 r)
  have a' : SAt Y Z R (dropS (ra ++ rb) none σ) { s with heap := h', toks := tk } := SAt.keepB (W := fun b => (∃ r ∈ ra ++ rb, R r b) ∧ Lst s.heap b) aK I (by rw [hA]; exact kb) fun b ⟨⟨r, hr, hR⟩, o', vs, m', e', hc', hd'⟩ =>
    ⟨a.regs.rnew r b hR (nz r hr), (a.regs.rin r b hR).2, a.ok.fin.not_seq e' hd', (fun _ vs' m'' e2 => by rw [e'] at e2; cases e2; simp at hc'), (fun o2 vs2 c2 e2 _ hc2 => by rw [e'] at e2; cases e2; rw [hc'] at hc2; cases hc2), fun z sl e2 j hj hRj => (dropS_lookup e2).2.1 j hj (a.regs.apart j r b hRj hR ▸ hr)⟩
  rw [← hM, ← hA]
  refine S.ev (Nat.le_refl _) he (a'.atRho I fun z d e => let ⟨sl, q1, q2, q3⟩ := hρ.get z d e; ⟨sl, dropS_get q1 q3 (fun q => nomatch q), q2⟩) (fun r v h'' tk'' as'' hr k'' rv _ => ?_) fun _ _ _ _ z => z.elim
  obtain ⟨r1, r2⟩ := r
  cases hr
  cases rv
  exact hQ h'' tk'' (a'.keep I (tk := tk'') k'').entry

end
end Mine
end

section
set_option maxRecDepth 100000
set_option linter.unusedVariables false
namespace Mine
open PySem
variable {Z : Addr → Prop}

/-- statements, and what stands behind them -/
theorem runs_then {Y : Sx} {x : WXv} (S : SoundX Y x) {tl : List Stmt} : ∀ (sts : List Stmt) {lk : List Nat} {σ : Sg} {Z : Addr → Prop} {R : Nat → Addr → Prop} {s : Shared} {Qw Xw} {Q : Flow → Shared → Prop} {E : Value → Shared → Prop}, wruns x lk σ sts Qw Xw → SAt Y Z R σ s →
    (∀ σ' h' tk R', Qw (.next σ') → SAt Y Z R' σ' { s with heap := h', toks := tk } → wpAny Y.B.M Y.B.A (execs tl Y.env) Q E { s with heap := h', toks := tk }) → KR Y Z s Qw Q → KX Y Z s Xw E → wpAny Y.B.M Y.B.A (execs (sts ++ tl) Y.env) Q E s
  | [], lk, σ, Z, R, s, Qw, Xw, Q, E, h, a, hN, hR, hX => hN σ s.heap s.toks R h a
  | st :: r, lk, σ, Z, R, s, Qw, Xw, Q, E, h, a, hN, hR, hX =>
    wpAny_execs_cons (S.run h a (fun σ' h' tk R' hq k rx a' => runs_then S r hq a' (fun σ'' h'' tk'' R'' hq' a'' => hN σ'' h'' tk'' R'' hq' a'') hR hX) (fun v fr val h' tk hq ret => hR v fr val h' tk hq ret) hX)

/-- what must stand ahead of the last statement: return f(a, b, c) and e -/
inductive Ends (G : Prog) (fn fo : Fn) (na nb nc : Str) (e : Expr) (σ : Sg) : Prop
  | mk (la lb : List PyData) (dc : PyData) (ra rb rc : List Nat) (ta tb tc : Option Nat) (h1 : σ.lookup na = some ⟨.dat (.list la), ra, ta⟩) (h2 : σ.lookup nb = some ⟨.dat (.list lb), rb, tb⟩) (h3 : σ.lookup nc = some ⟨.dat dc, rc, tc⟩) (F : OwnFn (wlev (cfg G (pcall G 28)) false 40) fo la lb dc ra rb rc) (W : OwnOk la lb ra rb)
    (ρ : Rho) (hρ : RhoIn σ (ra ++ rb) ρ) (he : (wlev (cfg G (pcall G 29)) false 40).ev fn.names ρ e (fun r => r.1 = .dat (.bool true)) fun _ => False)
/-- what the statements ahead of it must give -/
def LawW (G : Prog) (fn fo : Fn) (pn na nb nc : Str) (e : Expr) (init : List Stmt) (d : PyData) : Prop :=
  wruns (wblockX (cfg G (pcall G 29)) false fn.names) [] [(pn, ⟨.dat d, [0], none⟩)] init (fun o => match o with | .ret v _ => v = .dat (.bool true) | .next σ => Ends G fn fo na nb nc e σ) fun _ => False

end Mine
end

section
set_option maxRecDepth 100000
set_option linter.unusedVariables false
namespace Mine
open PySem PySem.Calls PyProof.Rows PySem.W
variable {Z : Addr → Prop}

section
variable {p : Program} {loose : List Str} {mean : ExcName → Option Value} {mg mb : Str → Option Value} {K : Frag} {prog : Program} {w : World} {body : List Stmt} {s : Shared}

/-- the law's call, by the interpreter's word; its last statement hands lists to a def that appends to them -/
theorem law_runs2 (T : Top p loose mean mg mb s.heap) (X : K.In s.heap) (hf : fnsOf body = (recsOf p).map toFn) (hr : (recsOf p).all okRec = true) (hn : okNames p loose = true) (hc : okConsts p (constsOf body) = true) (hcl : okCls K (progOf body) (clsOf body) = true)
    {name : Str} {fa sc : Addr} (hm : mg name = some (.ref fa)) {vals : List Value} {ns : List Int} (hI : IntsAre vals ns) (hs : s.heap.get? sc = some { cls := .type "list", data := .seq vals.toArray }) (hlen : ns.length ≤ 63)
    {fn fo : Fn} {f pn na nb nc : Str} {init : List Stmt} {pf pa pb pc pcl pbo pos : Pos} {e : Expr} (hl : (progOf body).fns.lookup name = some fn) (hlo : (progOf body).fns.lookup f = some fo) (hps : fn.params = [pn])
    (hb : fn.body = init ++ [.Return (some (.BoolOp .And [.Call (.Name f pf) [.Name na pa, .Name nb pb, .Name nc pc] [] pcl, e] pbo)) pos]) (hck : (glob fn.names f && (okNm f && okNm na && okNm nb && okNm nc)) = true)
    (hp : LawW (progOf body) fn fo pn na nb nc e init (.list (ns.map .int))) {Q : Value → Shared → Prop} {E : Value → Shared → Prop}
    (hQ : ∀ h' tk, (∀ b o, s.heap.get? b = some o → h'.get? b = some o) → Q (.bool true) { s with heap := h', toks := tk }) :
    wpAny (model prog w) callerA (call (.ref fa) [.ref sc]) Q E s := by
  have FF := top_fns (prog := prog) (w := w) (K := K) T hf hr
  have O0 : CxOk (cx (topCx prog w s.heap mg mb K (progOf body)) (progOf body) 0) := top_cxok T X hn hc hcl
  have rl : Rd (fun _ => False) s.heap (.ref sc) (.list (ns.map .int)) [sc] := .list hs (by rw [sizeLine_eq]; have := ints_len hI; simp; omega) (by simpa using ints_rd hI)
  obtain ⟨hg, hck⟩ := Bool.and_eq_true_iff.mp hck
  refine fn_enter (Z := fun _ => False) (P₀ := fun _ => True) (h₀ := s.heap) (R := fun r b => r = 0 ∧ b < s.heap.objs.size) (σ := [(pn, ⟨.dat (.list (ns.map .int)), [0], none⟩)]) FF O0 (m := 29) (n := 29) (q := false) (A := callerA) (fun q A n hn => fns_sound FF O0 29 q A n hn) (Nat.le_refl _) hl hm
    ⟨⟨[], rfl, trivial⟩, (fun b hb => nomatch hb), fun _ _ e => e, fun _ => rfl, (by show callerA.depth + 30 < 900; decide), (by show callerA.units + 8*30 + 100 < 9900; decide), fun _ h => h.elim⟩ (Keep.refl _ _) (fun _ _ e => e) ⟨fun i j b h1 h2 => h1.1.trans h2.1.symm, fun i b h => h.2, fun i b h hi => absurd h.1 hi, fun b h => trivial⟩ (by rw [hps]; rfl) (fun z sl e => ?_) fun env h₁ tk₁ eN I hL k₁ sat SX _ => ?_
  · rw [List.lookup_cons] at e
    cases hz : z == pn with
    | true =>
      rw [hz] at e; cases e; rw [eq_of_beq hz, hps]
      exact ⟨.ref sc, [sc], .head _, rl, fun b hb => ⟨0, .head _, rfl, by cases List.mem_singleton.mp hb; exact Heap.lt_size hs⟩, rfl⟩
    | false => rw [hz] at e; cases e
  · have nof : ∀ {h' : Heap} {b : Addr} {o : Obj}, Keep (fsOf callerA) s.heap h' → s.heap.get? b = some o → h'.get? b = some o := fun k e => k.other _ _ e fun m => nomatch m
    rw [hb]
    refine runs_then (Y := callSx (topCx prog w s.heap mg mb K (progOf body)) (progOf body) 29 false callerA 29 s.heap (fun _ => True) env) SX init hp sat (fun σ' h' tk R' hq a' => ?_) (fun v fr val h' tk hq ret => ?_) fun _ _ _ _ z => z.elim
    · obtain ⟨la, lb, dc, ra, rb, rc, ta, tb, tc, h1, h2, h3, F, W, ρ, hρ, he⟩ := hq
      have S : Sound (callSx (topCx prog w s.heap mg mb K (progOf body)) (progOf body) 29 false callerA 29 s.heap (fun _ => True) env).B (wlev (cfg (progOf body) (pcall (progOf body) 29)) false 40) := Sound.lev (X := (callSx (topCx prog w s.heap mg mb K (progOf body)) (progOf body) 29 false callerA 29 s.heap (fun _ => True) env).B) (O0.any 29) (fns_sound FF O0 29 false (callerA.deeper env) 29 (Nat.le_refl _)) 40
      generalize wlev (cfg (progOf body) (pcall (progOf body) 29)) false 40 = wl at he S
      rw [← eN] at he hg
      refine wpAny_execs_cons (run_Own (m := 28) (n := 28) (A := callerA.deeper env) FF O0 (fun q A n hn => fns_sound FF O0 28 q A n hn) (Nat.le_refl _) hlo rfl S I a' hg hck h1 h2 h3 F W hρ he fun h'' tk'' k => ?_)
      exact hQ h'' tk'' fun b o e => nof k e
    · obtain ⟨as, k, rv, _, _⟩ := ret
      cases hq
      cases rv with
      | bool b => exact hQ h' tk fun b o e => nof k e

end
end Mine
end

section
set_option linter.unusedVariables false
namespace Mine
open PySem

/-- a note: start, long, pitch -/
abbrev Note := Int × Int × Int
def nd (n : Note) : PyData := .tuple [.int n.1, .int n.2.1, .int n.2.2]
def vd (v : List Note) : PyData := .list (v.map nd)
def pd (p : List (List Note)) : PyData := .list (p.map vd)
def ids (ns : List Int) : PyData := .list (ns.map .int)

/-- a name's slot; of an int -/
abbrev sl (x : Str) (d : PyData) (r : List Nat) (t : Option Nat) : Str × Slot := (x, ⟨.dat d, r, t⟩)
abbrev si (x : Str) (i : Int) : Str × Slot := (x, ⟨.dat (.int i), [], none⟩)

structure OkNote (n : Note) : Prop where
  a : 0 ≤ n.1
  b : 1 ≤ n.2.1
  c : n.1 + n.2.1 ≤ 100000
  d : -200 ≤ n.2.2
  e : n.2.2 ≤ 200

/-- notes in a row, from a on, the last ends by b -/
def OkTo (a : Int) : List Note → Int → Prop
  | [], b => a ≤ b
  | n :: r, b => OkNote n ∧ a ≤ n.1 ∧ OkTo (n.1 + n.2.1) r b

theorem OkTo.snoc {n : Note} : ∀ {v : List Note} {a b c : Int}, OkTo a v b → OkNote n → b ≤ n.1 → n.1 + n.2.1 ≤ c → OkTo a (v ++ [n]) c
  | [], a, b, c, h, hn, hb, hc => ⟨hn, Int.le_trans h hb, hc⟩
  | m :: r, a, b, c, ⟨h1, h2, h3⟩, hn, hb, hc => ⟨h1, h2, h3.snoc hn hb hc⟩

theorem OkTo.mem {n : Note} : ∀ {v : List Note} {a b : Int}, OkTo a v b → n ∈ v → OkNote n
  | m :: r, a, b, ⟨h1, h2, h3⟩, hn => by
    rcases List.mem_cons.mp hn with rfl | hn
    · exact h1
    · exact h3.mem hn

theorem OkTo.low {v : List Note} {a a' b : Int} (h : OkTo a v b) (ha : a' ≤ a) : OkTo a' v b := by
  cases v with
  | nil => exact Int.le_trans ha h
  | cons m r => exact ⟨h.1, Int.le_trans ha h.2.1, h.2.2⟩

theorem OkTo.up : ∀ {v : List Note} {a b c : Int}, OkTo a v b → b ≤ c → OkTo a v c
  | [], _, _, _, h, hc => Int.le_trans h hc
  | _ :: _, _, _, _, h, hc => ⟨h.1, h.2.1, h.2.2.up hc⟩

def OkVoice (v : List Note) : Prop := ∃ b, OkTo 0 v b
structure OkPiece (p : List (List Note)) : Prop where
  lo : 1 ≤ p.length
  hi : p.length ≤ 6
  all : ∀ v ∈ p, OkVoice v

theorem flatAll_nd : ∀ v : List Note, flatAll (v.map nd) = true
  | [] => rfl
  | n :: v => by
    have := flatAll_nd v
    simp only [List.map_cons, flatAll, this, Bool.and_true]
    rfl
theorem flatAll_int : ∀ v : List Int, flatAll (v.map .int) = true
  | [] => rfl
  | n :: v => by
    have := flatAll_int v
    simp only [List.map_cons, flatAll, this, Bool.and_true]
    rfl

theorem fm (a b : Int) (h : 0 < b) : 0 ≤ a.fmod b ∧ a.fmod b < b := ⟨Int.fmod_nonneg_of_pos a h, Int.fmod_lt_of_pos a h⟩

theorem mulOk_right {a b : Int} (h : b.natAbs < 2 ^ 64) : mulOk a b = true := by
  unfold mulOk
  have : Builtin.Int.intBits b ≤ 64 := by
    unfold Builtin.Int.intBits
    split
    · omega
    · rename_i hb
      have hb : b ≠ 0 := by simpa using hb
      have := (Nat.log2_lt (show b.natAbs ≠ 0 by omega)).mpr h
      omega
  rw [decide_eq_true this, Bool.or_true]
theorem mulOk_left {a b : Int} (h : a.natAbs < 2 ^ 64) : mulOk a b = true := by
  have := mulOk_right (a := b) h
  unfold mulOk at this ⊢
  rw [Bool.or_comm]; exact this

theorem item_at {xs : List PyData} {f : Bool} {i : Int} (h0 : 0 ≤ i) (h1 : i < xs.length) : ∃ d, xs[i.toNat]? = some d ∧ item (.dat (.list xs), f) i = some (.dat d, f || flat d) := by
  have hl : i.toNat < xs.length := by omega
  refine ⟨xs[i.toNat], List.getElem?_eq_getElem hl, ?_⟩
  simp only [item, itemL, place, h0, h1, if_true, List.getElem?_eq_getElem hl]

theorem item_ids {ns : List Int} {f : Bool} {i : Int} (h0 : 0 ≤ i) (h1 : i < ns.length) : item (.dat (ids ns), f) i = some (.dat (.int (ns.getD i.toNat 0)), true) := by
  obtain ⟨d, h2, h3⟩ := item_at (xs := ns.map .int) (f := f) h0 (by simpa using h1)
  have hl : i.toNat < ns.length := by omega
  rw [List.getElem?_map, List.getElem?_eq_getElem hl] at h2
  cases h2
  have : ns.getD i.toNat 0 = ns[i.toNat] := by simp [List.getD, List.getElem?_eq_getElem hl]
  rw [this]
  refine h3.trans ?_
  rw [show flat (.int ns[i.toNat]) = true from rfl, Bool.or_true]

/-- a list of few ints, at a place -/
theorem item_few {xs : List Int} {f : Bool} {i : Int} (h0 : 0 ≤ i) (h1 : i < xs.length) : ∃ k ∈ xs, item (.dat (.list (xs.map .int)), f) i = some (.dat (.int k), true) := by
  refine ⟨xs.getD i.toNat 0, ?_, item_ids h0 h1⟩
  have hl : i.toNat < xs.length := by omega
  simp [List.getD, List.getElem?_eq_getElem hl]

theorem datsOf_dat {α : Type} (h : α → PyData) : ∀ xs : List α, datsOf (xs.map fun a => (V.dat (h a), true)) = some (xs.map h)
  | [] => rfl
  | a :: r => by simp only [List.map_cons, datsOf, datsOf_dat h r, Option.map_some]
theorem mkListC_map {α : Type} (h : α → PyData) (xs : List α) : mkListC (xs.filterMap fun a => some (V.dat (h a), true)) = some (.dat (.list (xs.map h)), true) := by
  rw [List.filterMap_eq_map', mkListC, datsOf_dat]
  simp

theorem rangeLen1 (b : Int) (h : 0 ≤ b) : rangeLen 0 b 1 = b.toNat := by
  unfold rangeLen
  split
  · omega
  · omega
theorem range1 {b : Int} (h : 0 ≤ b) (h1 : b ≤ 1000000) : rangeOf [b] = some ((List.range b.toNat).map fun (k : Nat) => .int (k : Int)) := by
  simp only [rangeOf]
  rw [if_pos (by simp [small]; omega), rangeLen1 b h]
  simp [rangeUp]

theorem range3 {a b c : Int} (ha : 0 ≤ a) (ha' : a ≤ 1000000) (hb : 0 ≤ b) (hb' : b ≤ 1000000) (hc : 0 < c) (hc' : c ≤ 1000000) : ∃ ks : List Int, rangeOf [a, b, c] = some (ks.map .int) ∧ (∀ k ∈ ks, a ≤ k ∧ k < b) ∧ ks.length ≤ b.toNat := by
  have hlen : ∀ n : Nat, n < rangeLen a b c → a + (n : Int) * c < b := fun n hn => by
    unfold rangeLen at hn
    split at hn
    · have h0 : 0 ≤ (b - a - 1) / c := Int.ediv_nonneg (by omega) (by omega)
      have h1 : (n : Int) ≤ (b - a - 1) / c := by omega
      have h2 : (n : Int) * c ≤ (b - a - 1) / c * c := Int.mul_le_mul_of_nonneg_right h1 (by omega)
      have h3 : (b - a - 1) / c * c ≤ b - a - 1 := Int.ediv_mul_le _ (by omega)
      omega
    · omega
  refine ⟨(List.range (rangeLen a b c)).map fun (n : Nat) => a + (n : Int) * c, ?_, ?_, ?_⟩
  · simp only [rangeOf]
    rw [if_pos (by simp [small]; omega)]
    simp [rangeUp]
  · intro k hk
    obtain ⟨n, hn, rfl⟩ := List.mem_map.mp hk
    have hn := List.mem_range.mp hn
    have h1 := hlen n hn
    have h2 : 0 ≤ (n : Int) * c := Int.mul_nonneg (by omega) (by omega)
    omega
  · simp only [List.length_map, List.length_range]
    apply Nat.le_of_not_lt
    intro hlt
    have h1 := hlen b.toNat hlt
    have h2 : (b.toNat : Int) * 1 ≤ (b.toNat : Int) * c := Int.mul_le_mul_of_nonneg_left (by omega) (by omega)
    omega

theorem mul_bd {k s K S : Int} (h0 : 0 ≤ k) (h1 : k ≤ K) (h2 : 0 ≤ s) (h3 : s ≤ S) : 0 ≤ k * s ∧ k * s ≤ K * S := ⟨Int.mul_nonneg h0 h2, Int.mul_le_mul h1 h3 h2 (Int.le_trans h0 h1)⟩

theorem vd_snoc (v : List Note) (m : Note) : vd (v ++ [m]) = .list (v.map nd ++ [nd m]) := by simp [vd]
theorem pd_snoc (p : List (List Note)) (v : List Note) : pd (p ++ [v]) = .list (p.map vd ++ [vd v]) := by simp [pd]
theorem ids_app (a b : List Int) : ids (a ++ b) = .list (a.map .int ++ b.map .int) := by simp [ids]

theorem app_ok {b : Bool} {n : Nat} (h : b = false) (hn : n < 1048576) : (b || decide (1048576 ≤ n)) = false := by
  rw [h, decide_eq_false (by omega)]; rfl

theorem eqv_nd (a b : Note) : PyData.eqv (nd a) (nd b) = decide (a = b) := by
  obtain ⟨a1, a2, a3⟩ := a
  obtain ⟨b1, b2, b3⟩ := b
  simp only [nd, PyData.eqv, PyData.eqvAll, Bool.and_true]
  rw [Bool.eq_iff_iff]
  simp
theorem eqvAll_nd : ∀ a b : List Note, PyData.eqvAll (a.map nd) (b.map nd) = decide (a = b)
  | [], [] => by simp [PyData.eqvAll]
  | [], _ :: _ => by simp [PyData.eqvAll]
  | _ :: _, [] => by simp [PyData.eqvAll]
  | x :: a, y :: b => by
    rw [List.map_cons, List.map_cons, PyData.eqvAll, eqv_nd, eqvAll_nd a b, Bool.eq_iff_iff]
    simp
theorem eqv_vd (a b : List Note) : PyData.eqv (vd a) (vd b) = decide (a = b) := by
  rw [vd, vd, PyData.eqv, eqvAll_nd]
theorem eqvAll_vd : ∀ a b : List (List Note), PyData.eqvAll (a.map vd) (b.map vd) = decide (a = b)
  | [], [] => by simp [PyData.eqvAll]
  | [], _ :: _ => by simp [PyData.eqvAll]
  | _ :: _, [] => by simp [PyData.eqvAll]
  | x :: a, y :: b => by
    rw [List.map_cons, List.map_cons, PyData.eqvAll, eqv_vd, eqvAll_vd a b, Bool.eq_iff_iff]
    simp
theorem eqv_pd (a b : List (List Note)) : PyData.eqv (pd a) (pd b) = decide (a = b) := by
  rw [pd, pd, PyData.eqv, eqvAll_vd]

theorem lay_nd (a : Note) : PyData.canLay0 (nd a) = true ∧ (nd a).depth ≤ 1 := ⟨rfl, by simp [nd, PyData.depth, PyData.depthAll]⟩
theorem lay_nds : ∀ a : List Note, PyData.canLayAll0 (a.map nd) = true ∧ PyData.depthAll (a.map nd) ≤ 1
  | [] => ⟨rfl, by simp [PyData.depthAll]⟩
  | x :: a => by
    obtain ⟨h1, h2⟩ := lay_nds a
    obtain ⟨h3, h4⟩ := lay_nd x
    rw [List.map_cons, PyData.canLayAll0, PyData.depthAll, h1, h3]
    exact ⟨rfl, Nat.max_le.mpr ⟨h4, h2⟩⟩
theorem lay_vd (a : List Note) : PyData.canLay0 (vd a) = true ∧ (vd a).depth ≤ 2 := by
  obtain ⟨h1, h2⟩ := lay_nds a
  rw [vd, PyData.canLay0, PyData.depth]
  exact ⟨h1, by omega⟩
theorem lay_vds : ∀ a : List (List Note), PyData.canLayAll0 (a.map vd) = true ∧ PyData.depthAll (a.map vd) ≤ 2
  | [] => ⟨rfl, by simp [PyData.depthAll]⟩
  | x :: a => by
    obtain ⟨h1, h2⟩ := lay_vds a
    obtain ⟨h3, h4⟩ := lay_vd x
    rw [List.map_cons, PyData.canLayAll0, PyData.depthAll, h1, h3]
    exact ⟨rfl, Nat.max_le.mpr ⟨h4, h2⟩⟩
theorem lay_pd (a : List (List Note)) : PyData.canLay0 (pd a) = true ∧ (pd a).depth ≤ 3 := by
  obtain ⟨h1, h2⟩ := lay_vds a
  rw [pd, PyData.canLay0, PyData.depth]
  exact ⟨h1, by omega⟩
theorem shaped_of {d : PyData} {n : Nat} (h : d.canLay0 = true ∧ d.depth ≤ n) (hn : n ≤ 64) : SeqAt.shaped d = true := by
  unfold SeqAt.shaped
  rw [h.1, decide_eq_true (by omega)]; rfl
theorem shaped_nd (a : Note) : SeqAt.shaped (nd a) = true := shaped_of (lay_nd a) (by omega)
theorem shaped_vd (a : List Note) : SeqAt.shaped (vd a) = true := shaped_of (lay_vd a) (by omega)
theorem shaped_pd (a : List (List Note)) : SeqAt.shaped (pd a) = true := shaped_of (lay_pd a) (by omega)

theorem bears_in {b c : Sg} {t : Nat} {y : Str} (h : t ∉ regsOf b) (hy : y ∈ b.map (·.1)) : bears (b ++ c) t y = false := by
  induction b with
  | nil => simp at hy
  | cons p b ih =>
    obtain ⟨z, s⟩ := p
    unfold bears
    rw [List.cons_append, List.lookup_cons]
    have hs : t ∉ s.regs := fun m => h (by unfold regsOf; rw [List.flatMap_cons]; exact List.mem_append_left _ m)
    have hb : t ∉ regsOf b := fun m => h (by unfold regsOf; rw [List.flatMap_cons]; exact List.mem_append_right _ m)
    cases hyz : y == z with
    | true => simpa using hs
    | false =>
      simp only
      refine ih hb ?_
      rcases List.mem_cons.mp hy with e | e
      · exact absurd e (by simpa using hyz)
      · exact e
/-- the list that grows was made last -/
theorem killS_last {b : Sg} {y : Str} {v : V} {tp : Option Nat} {t : Nat} (h : t ∉ regsOf b) (hy : (b.map (·.1)).contains y = false) : killS t (b ++ [(y, ⟨v, [t], tp⟩)]) = b := by
  replace hy : y ∉ b.map (·.1) := by simpa using hy
  unfold killS
  rw [List.filter_append]
  have h1 : b.filter (fun p => !bears (b ++ [(y, ⟨v, [t], tp⟩)]) t p.1) = b := by
    rw [List.filter_eq_self]
    intro p hp
    rw [bears_in h (List.mem_map_of_mem hp)]; rfl
  have h2 : bears (b ++ [(y, ⟨v, [t], tp⟩)]) t y = true := by
    unfold bears
    have : (b ++ [(y, (⟨v, [t], tp⟩ : Slot))]).lookup y = some ⟨v, [t], tp⟩ := by
      clear h h1
      induction b with
      | nil => simp
      | cons p b ih =>
        obtain ⟨z, s⟩ := p
        rw [List.cons_append, List.lookup_cons]
        have hz : (y == z) = false := by
          simp at hy
          simpa using hy.1
        rw [hz]
        exact ih (fun m => hy (by rw [List.map_cons]; exact .tail _ m))
    rw [this]; simp
  rw [h1, List.filter_cons, List.filter_nil, h2]
  simp

theorem fresh_out {σ : Sg} {lk : List Nat} : lk.contains (freshOf σ lk) = false := by
  cases h : lk.contains (freshOf σ lk) with
  | false => rfl
  | true => exact absurd rfl (fresh_lk (List.contains_iff_mem.mp h))
theorem fresh_not {σ : Sg} {lk : List Nat} : freshOf σ lk ∉ regsOf σ := fun m => fresh_regs m rfl

theorem slotOf_v (t : Nat) (rs : List Nat) (r : VB) : (slotOf t rs r).v = r.1 := by
  unfold slotOf
  split
  · rfl
  · split <;> rfl

theorem list_vd (v : List Note) (f : Bool) : bList [(.dat (vd v), f)] = some (.dat (vd v), true) := by
  show some (V.dat (.list (v.map nd)), f || flatAll (v.map nd)) = _
  rw [flatAll_nd, Bool.or_true]; rfl

theorem intsOf_ids : ∀ ns : List Int, intsOf (ns.map .int) = some ns
  | [] => rfl
  | n :: r => by rw [List.map_cons, intsOf, intsOf_ids r]; rfl
theorem max_ids (a : Int) (r : List Int) (f : Bool) : bMax [(.dat (ids (a :: r)), f)] = some (.dat (.int (maxI a r)), true) := by
  show (match intsOf ((a :: r).map .int) with | some (a :: r) => some (V.dat (.int (maxI a r)), true) | _ => none) = _
  rw [intsOf_ids]
theorem min_ids (a : Int) (r : List Int) (f : Bool) : bMin [(.dat (ids (a :: r)), f)] = some (.dat (.int (minI a r)), true) := by
  show (match intsOf ((a :: r).map .int) with | some (a :: r) => some (V.dat (.int (minI a r)), true) | _ => none) = _
  rw [intsOf_ids]
theorem maxI_ge : ∀ (r : List Int) (a : Int), a ≤ maxI a r ∧ ∀ b ∈ r, b ≤ maxI a r
  | [], a => ⟨Int.le_refl _, fun _ m => nomatch m⟩
  | b :: r, a => by
    obtain ⟨h1, h2⟩ := maxI_ge r (if a < b then b else a)
    rw [maxI]
    refine ⟨?_, fun c hc => ?_⟩
    · split at h1 <;> split <;> omega
    · rcases List.mem_cons.mp hc with rfl | hc
      · split at h1 <;> split <;> omega
      · exact h2 c hc

theorem lay_ints : ∀ a : List Int, PyData.canLayAll0 (a.map .int) = true ∧ PyData.depthAll (a.map .int) ≤ 0
  | [] => ⟨rfl, by simp [PyData.depthAll]⟩
  | x :: a => by
    obtain ⟨h1, h2⟩ := lay_ints a
    rw [List.map_cons, PyData.canLayAll0, PyData.depthAll, h1]
    exact ⟨rfl, by simp only [PyData.depth]; omega⟩
theorem shaped_ids (a : List Int) : SeqAt.shaped (ids a) = true := by
  obtain ⟨h1, h2⟩ := lay_ints a
  refine shaped_of (n := 1) ?_ (by omega)
  rw [ids, PyData.canLay0, PyData.depth]
  exact ⟨h1, by omega⟩

theorem pairs_map {α : Type} (f g : α → PyData) : ∀ p : List α, pairs (p.map f) (p.map g) = p.map fun v => .tuple [f v, g v]
  | [] => rfl
  | a :: p => by rw [List.map_cons, List.map_cons, pairs, pairs_map f g p]; rfl

theorem flat_ids (a b : List Int) {f g : Bool} : ((f && g) || (flatAll (a.map PyData.int) && flatAll (b.map PyData.int))) = true := by
  rw [flatAll_int, flatAll_int, Bool.and_self, Bool.or_true]

/-- a comprehension with a test -/
theorem mkListC_some {α : Type} (P : α → Prop) [DecidablePred P] (h : α → PyData) (xs : List α) : mkListC (xs.filterMap fun a => if P a then some (V.dat (h a), true) else none) = some (.dat (.list ((xs.filter fun a => decide (P a)).map h)), true) := by
  have : xs.filterMap (fun a => if P a then some (V.dat (h a), true) else none) = (xs.filter fun a => decide (P a)).filterMap fun a => some (V.dat (h a), true) := by
    induction xs with
    | nil => rfl
    | cons a xs ih =>
      by_cases hp : P a
      · simp [List.filterMap_cons, List.filter_cons, hp, ih]
      · simp [List.filterMap_cons, List.filter_cons, hp, ih]
  rw [this, mkListC_map]

end Mine
end

section
set_option linter.unusedVariables false
namespace Mine
open PySem
namespace L04

abbrev G : Prog := progOf Challenge.pw_uf020036_04.main.body

theorem is_whole_int (n : Nat) (q : Bool) (i : Int) {Q : VB → Prop} {X : Str → Prop} (hQ : Q (.dat (.bool true), true)) : pcall G (n + 1) q "is_whole" [.dat (.int i)] Q X := by
  refine pcall_W rfl rfl ?_
  refine ⟨_, rfl, ?_⟩
  refine ⟨_, rfl, ?_⟩
  exact hQ

theorem is_note_ok (n : Nat) (m : Note) (h : OkNote m) {Q : VB → Prop} {X : Str → Prop} (hQ : Q (.dat (.bool true), true)) : pcall G (n + 2) false "is_note" [.dat (nd m)] Q X := by
  obtain ⟨h1, h2, h3, h4, h5⟩ := h
  refine pcall_W rfl rfl ?_
  refine ⟨_, rfl, ?_⟩
  refine ⟨_, rfl, ?_⟩
  refine And.intro (fun h => absurd rfl h) (fun _ => ?_)
  refine is_whole_int _ _ _ ?_
  refine is_whole_int _ _ _ ?_
  refine is_whole_int _ _ _ ?_
  refine ⟨_, rfl, ?_⟩
  refine And.intro (fun h => absurd h (by omega)) (fun _ => ?_)
  refine ⟨_, rfl, ?_⟩
  refine And.intro (fun h => absurd h (by omega)) (fun _ => ?_)
  refine ⟨_, rfl, ?_⟩
  refine ⟨_, rfl, ?_⟩
  refine And.intro (fun h => absurd h (by omega)) (fun _ => ?_)
  refine ⟨_, rfl, ?_⟩
  refine And.intro (fun _ => ?_) (fun h => absurd h4 h)
  refine And.intro (fun _ => ?_) (fun h => absurd h5 h)
  exact hQ

theorem end_of (n : Nat) (m : Note) {Q : VB → Prop} {X : Str → Prop} (hQ : Q (.dat (.int (m.1 + m.2.1)), true)) : pcall G (n + 1) false "end_of" [.dat (nd m)] Q X := by
  refine pcall_W rfl rfl ?_
  refine ⟨_, rfl, ?_⟩
  refine ⟨_, rfl, ?_⟩
  exact hQ

theorem is_voice_ok (n : Nat) (v : List Note) (h : OkVoice v) {Q : VB → Prop} {X : Str → Prop} (hQ : Q (.dat (.bool true), true)) : pcall G (n + 3) false "is_voice" [.dat (vd v)] Q X := by
  refine pcall_W rfl rfl ?_
  refine ⟨_, rfl, ?_⟩
  refine turns_inv (I := fun ds σ => ∃ u a b, ds = u.map nd ∧ σ = [sl "thing" (vd v) [0] none, si "ahead" a] ∧ OkTo a u b) ?_ ?_ _ _ ?_
  · rintro d r σ ⟨u, a, b, hd, rfl, hok⟩ R hR hret
    cases u with
    | nil => cases hd
    | cons m u =>
      cases hd
      refine ⟨_, rfl, ?_⟩
      refine is_note_ok _ _ hok.1 ?_
      refine ⟨_, rfl, ?_⟩
      refine And.intro (fun h => absurd h (Int.not_lt.mpr hok.2.1)) (fun _ => ?_)
      refine end_of _ _ ?_
      exact hR _ ⟨u, _, b, rfl, rfl, hok.2.2⟩
  · rintro σ ⟨u, a, b, hd, rfl, hok⟩
    exact hQ
  · obtain ⟨b, h⟩ := h
    exact ⟨v, 0, b, rfl, rfl, h⟩

end L04
end Mine
end

section
set_option linter.unusedVariables false
namespace Mine
open PySem
namespace L04

theorem is_piece_ok (n : Nat) (p : List (List Note)) (h : OkPiece p) {Q : VB → Prop} {X : Str → Prop} (hQ : Q (.dat (.bool true), true)) : pcall G (n + 4) false "is_piece" [.dat (pd p)] Q X := by
  obtain ⟨h1, h2, h3⟩ := h
  have hl : (p.map vd).length = p.length := List.length_map _
  refine pcall_W rfl rfl ?_
  refine ⟨_, rfl, ?_⟩
  refine ⟨_, rfl, ?_⟩
  refine And.intro (fun _ => ?_) (fun h => absurd h (by omega))
  refine And.intro (fun _ => ?_) (fun h => absurd h (by omega))
  refine turns_inv (I := fun ds σ => ∃ u : List (List Note), ds = u.map vd ∧ σ = [sl "thing" (pd p) [0] none] ∧ ∀ v ∈ u, OkVoice v) ?_ ?_ _ _ ?_
  · rintro d r σ ⟨u, hd, rfl, hok⟩ R hR hret
    cases u with
    | nil => cases hd
    | cons m u =>
      cases hd
      refine ⟨_, rfl, ?_⟩
      refine is_voice_ok _ _ (hok m (.head _)) ?_
      exact hR _ ⟨u, rfl, rfl, fun v hv => hok v (.tail _ hv)⟩
  · rintro σ ⟨u, hd, rfl, hok⟩
    exact hQ
  · exact ⟨p, rfl, rfl, h3⟩

theorem need_piece_ok (n : Nat) (p : List (List Note)) (h : OkPiece p) {Q : VB → Prop} {X : Str → Prop} (hQ : Q (.dat .none, true)) : pcall G (n + 5) false "need_piece" [.dat (pd p)] Q X := by
  refine pcall_W rfl rfl ?_
  refine is_piece_ok _ _ h ?_
  exact hQ

theorem is_whole_bad (n : Nat) (q : Bool) (d : PyData) (h : ∀ i, d ≠ .int i) {Q : VB → Prop} {X : Str → Prop} (hQ : Q (.dat (.bool false), true)) : pcall G (n + 1) q "is_whole" [.dat d] Q X := by
  refine pcall_W rfl rfl ?_
  cases d with
  | int i => exact absurd rfl (h i)
  | bool b =>
    refine ⟨_, rfl, ?_⟩
    refine ⟨_, rfl, ?_⟩
    exact hQ
  | _ =>
    refine ⟨_, rfl, ?_⟩
    exact hQ

theorem law_at (n : Nat) (ns : List Int) (k : Int) (hk : 0 ≤ k) {Q : VB → Prop} {X : Str → Prop} (hQ : Q (.dat (.int (ns.getD k.toNat 0)), true)) : pcall G (n + 1) false "_law_at" [.dat (ids ns), .dat (.int k)] Q X := by
  have hl : (ns.map PyData.int).length = ns.length := List.length_map _
  refine pcall_W rfl rfl ?_
  refine ⟨_, rfl, ?_⟩
  refine And.intro (fun h => ?_) (fun h => ?_)
  · refine ⟨_, item_ids hk (by rw [← hl]; exact h), ?_⟩
    exact hQ
  · have : ns.getD k.toNat 0 = 0 := by
      have : ns.length ≤ k.toNat := by omega
      simp [List.getD, List.getElem?_eq_none this]
    rw [this] at hQ; exact hQ

theorem law_whole_int (n : Nat) (i : Int) {Q : VB → Prop} {X : Str → Prop} (hQ : Q (.dat (.bool true), true)) : pcall G (n + 1) false "_law_whole" [.dat (.int i)] Q X := by
  refine pcall_W rfl rfl ?_
  refine ⟨_, rfl, ?_⟩
  refine ⟨_, rfl, ?_⟩
  exact hQ

end L04
end Mine
end

section
set_option linter.unusedVariables false
namespace Mine
open PySem
namespace L04

theorem law_notes (n : Nat) (ns : List Int) (t0 p0 s : Int) (ht : 0 ≤ t0) (hs : 1 ≤ s) (hs' : s ≤ 200) (hl : ns.length ≤ 63) (hb : t0 + 1400 * ns.length ≤ 100000)
    {Q : VB → Prop} {X : Str → Prop} (hQ : ∀ v, OkTo t0 v 100000 → v.length ≤ 63 → Q (.dat (vd v), true)) : pcall G (n + 1) false "_law_notes" [.dat (ids ns), .dat (.int t0), .dat (.int p0), .dat (.int s)] Q X := by
    refine pcall_W rfl rfl ?_
    refine ⟨_, rfl, ?_⟩
    refine turns_inv (I := fun ds σ => ∃ (u : List Int) (acc : List Note) (t p : Int), ds = u.map .int ∧ σ = [sl "_law_numbers" (ids ns) [0] none, si "_law_time" t, si "_law_pitch" p, si "_law_scale" s, sl "_law_notes_here" (vd acc) [1] (some 1)] ∧
      OkTo t0 acc t ∧ 0 ≤ t ∧ t + 1400 * u.length ≤ 100000 ∧ acc.length + u.length ≤ 63) ?_ ?_ _ _ ?_
    · rintro d r σ ⟨u, acc, t, p, hd, rfl, hok, ht1, ht2, hlen⟩ R hR hret
      cases u with
      | nil => cases hd
      | cons m u =>
        cases hd
        refine ⟨_, rfl, ?_⟩
        obtain ⟨f0, f1⟩ := fm m 6 (by decide)
        obtain ⟨k, hk, ek⟩ := item_few (xs := [0, 0, 0, 0, 1, 3]) (f := true) f0 f1
        obtain ⟨g0, g1⟩ := fm (m.fdiv 24) 4 (by decide)
        obtain ⟨j, hj, ej⟩ := item_few (xs := [((m.fdiv 24).fdiv 4).fmod 5 - 2, ((m.fdiv 24).fdiv 4).fmod 5 - 2, ((m.fdiv 24).fdiv 4).fmod 15 - 7, ((m.fdiv 24).fdiv 4).fmod 41 - 20]) (f := true) g0 g1
        refine seq_inv (fun σ' => σ' = [sl "_law_numbers" (ids ns) [0] none, si "_law_time" t, si "_law_pitch" p, si "_law_scale" s, sl "_law_notes_here" (vd acc) [1] (some 1), si "_law_number" m, si "_law_more" (m.fdiv 24)]) (fun R' hn hr => ?_) ?_
        · refine ⟨by decide, by decide, ?_⟩
          exact hn _ rfl
        rintro _ rfl
        refine seq_inv (fun σ' => σ' = [sl "_law_numbers" (ids ns) [0] none, si "_law_time" (t + k * s), si "_law_pitch" p, si "_law_scale" s, sl "_law_notes_here" (vd acc) [1] (some 1), si "_law_number" m, si "_law_more" (m.fdiv 24)]) (fun R' hn hr => ?_) ?_
        · refine ⟨_, rfl, ?_⟩
          refine ⟨by decide, ?_⟩
          refine ⟨_, ek, ?_⟩
          refine ⟨mulOk_right (by omega), ?_⟩
          exact hn _ rfl
        rintro _ rfl
        refine seq_inv (fun σ' => σ' = [sl "_law_numbers" (ids ns) [0] none, si "_law_time" (t + k * s), si "_law_pitch" p, si "_law_scale" s, sl "_law_notes_here" (vd acc) [1] (some 1), si "_law_number" m, si "_law_more" (m.fdiv 24), si "_law_jump" j]) (fun R' hn hr => ?_) ?_
        · refine ⟨by decide, by decide, ?_⟩
          refine ⟨by decide, ?_⟩
          refine ⟨by decide, by decide, ?_⟩
          refine ⟨by decide, ?_⟩
          refine ⟨by decide, by decide, ?_⟩
          refine ⟨by decide, ?_⟩
          refine ⟨by decide, by decide, ?_⟩
          refine ⟨by decide, ?_⟩
          refine ⟨_, rfl, ?_⟩
          refine ⟨by decide, ?_⟩
          refine ⟨_, ej, ?_⟩
          exact hn _ rfl
        rintro _ rfl
        refine seq_inv (fun σ' => σ' = [sl "_law_numbers" (ids ns) [0] none, si "_law_time" (t + k * s), si "_law_pitch" ((p + j + 200).fmod 401 - 200), si "_law_scale" s, sl "_law_notes_here" (vd acc) [1] (some 1), si "_law_number" m, si "_law_more" (m.fdiv 24), si "_law_jump" j]) (fun R' hn hr => ?_) ?_
        · refine ⟨by decide, ?_⟩
          exact hn _ rfl
        rintro _ rfl
        refine seq_inv (fun σ' => σ' = [sl "_law_numbers" (ids ns) [0] none, si "_law_time" (t + k * s), si "_law_pitch" ((p + j + 200).fmod 401 - 200), si "_law_scale" s, si "_law_number" m, si "_law_more" (m.fdiv 24), si "_law_jump" j, sl "_law_notes_here" (vd (acc ++ [((t + k * s), ((1 + (m.fdiv 6).fmod 4) * s), ((p + j + 200).fmod 401 - 200))])) [1] (some 1)]) (fun R' hn hr => ?_) ?_
        · refine ⟨app_ok rfl (by rw [List.length_map]; simp only [List.length_cons] at hlen; omega), ?_⟩
          refine ⟨by decide, by decide, ?_⟩
          refine ⟨by decide, ?_⟩
          refine ⟨mulOk_right (by omega), ?_⟩
          refine ⟨_, rfl, ?_⟩
          refine ⟨rfl, ?_⟩
          exact hn _ (by rw [vd_snoc]; rfl)
        rintro _ rfl
        refine ⟨by decide, by decide, ?_⟩
        refine ⟨by decide, ?_⟩
        refine ⟨mulOk_right (by omega), ?_⟩
        have hk03 : 0 ≤ k ∧ k ≤ 3 := by simp at hk; omega
        obtain ⟨e0, e1⟩ := fm (m.fdiv 6) 4 (by decide)
        obtain ⟨q0, q1⟩ := fm (p + j + 200) 401 (by decide)
        obtain ⟨b0, b1⟩ := mul_bd hk03.1 hk03.2 (show 0 ≤ s by omega) hs'
        have c0 := mul_bd (show 0 ≤ 1 + (m.fdiv 6).fmod 4 by omega) (show 1 + (m.fdiv 6).fmod 4 ≤ 4 by omega) (show 0 ≤ s by omega) hs'
        have c1 : 1 * s ≤ (1 + (m.fdiv 6).fmod 4) * s := Int.mul_le_mul_of_nonneg_right (by omega) (by omega)
        simp only [List.length_cons] at hlen ht2
        have hok2 : OkTo t0 (acc ++ [(t + k * s, (1 + (m.fdiv 6).fmod 4) * s, (p + j + 200).fmod 401 - 200)]) (t + k * s + (1 + (m.fdiv 6).fmod 4) * s) :=
          hok.snoc ⟨by simp only; omega, by simp only; omega, by simp only; omega, by simp only; omega, by simp only; omega⟩ (by simp only; omega) (by simp only; omega)
        exact hR _ ⟨u, _, _, _, rfl, rfl, hok2, by omega, by omega, by simp only [List.length_append, List.length_cons, List.length_nil]; omega⟩
    · rintro σ ⟨u, acc, t, p, hd, rfl, hok, ht1, ht2, hlen⟩
      cases u with
      | cons m u => cases hd
      | nil =>
        simp only [List.length_nil] at ht2 hlen
        exact hQ acc (hok.up (by omega)) (by omega)
    · exact ⟨ns, [], t0, p0, rfl, rfl, Int.le_refl _, ht, hb, by simpa using hl⟩

end L04
end Mine
end

section
set_option linter.unusedVariables false
namespace Mine
open PySem
namespace L04

theorem ids_map (g : Int → Int) (ks : List Int) : ids (ks.map g) = .list (ks.map fun k => .int (g k)) := by simp [ids]


theorem law_piece (n : Nat) (ns : List Int) (hl : ns.length ≤ 63)
    {Q : VB → Prop} {X : Str → Prop} (hQ : ∀ p, OkPiece p → (∀ v ∈ p, v.length ≤ 63) → Q (.dat (pd p), true)) : pcall G (n + 2) false "_law_piece" [.dat (ids ns)] Q X := by
    refine pcall_W rfl rfl ?_
    obtain ⟨a1, a2⟩ := fm (ns.getD 0 0) 4 (by decide)
    obtain ⟨b1, b2⟩ := fm ((ns.getD 0 0).fdiv 32) 2 (by decide)
    obtain ⟨d1, d2⟩ := fm ((ns.getD 1 0).fdiv 8) 200 (by decide)
    refine seq_inv (fun σ' => σ' = [sl "_law_script" (ids ns) [0] none, si "_law_many" (1 + (ns.getD 0 0).fmod 4)]) (fun R' hn hr => ?_) ?_
    · refine law_at _ ns 0 (by decide) ?_
      refine ⟨by decide, ?_⟩
      exact hn _ rfl
    rintro _ rfl
    refine seq_inv (fun σ' => ∃ many, 1 ≤ many ∧ many ≤ 6 ∧ σ' = [sl "_law_script" (ids ns) [0] none, si "_law_many" many]) (fun R' hn hr => ?_) ?_
    · refine law_at _ ns 0 (by decide) ?_
      refine ⟨by decide, by decide, ?_⟩
      refine ⟨by decide, ?_⟩
      refine And.intro (fun _ => ?_) (fun _ => ?_)
      · refine law_at _ ns 0 (by decide) ?_
        refine ⟨by decide, by decide, ?_⟩
        refine ⟨by decide, ?_⟩
        exact hn _ ⟨5 + ((ns.getD 0 0).fdiv 32).fmod 2, by omega, by omega, rfl⟩
      · exact hn _ ⟨1 + (ns.getD 0 0).fmod 4, by omega, by omega, rfl⟩
    rintro _ ⟨many, m1, m6, rfl⟩
    refine seq_inv (fun σ' => σ' = [sl "_law_script" (ids ns) [0] none, si "_law_many" many, sl "_law_piece_here" (pd []) [1] (some 1)]) (fun R' hn hr => ?_) ?_
    · refine ⟨_, rfl, ?_⟩
      exact hn _ rfl
    rintro _ rfl
    refine seq_inv (fun σ' => ∃ p, (OkPiece p ∧ ∀ v ∈ p, v.length ≤ 63) ∧ σ' = [sl "_law_script" (ids ns) [0] none, si "_law_many" many, sl "_law_piece_here" (pd p) [1] (some 1)]) (fun R' hn hr => ?_) ?_
    · refine ⟨_, _, rfl, range1 (b := many) (by omega) (by omega), ?_⟩
      refine turns_inv (I := fun ds σ => ∃ (ks : List Nat) (acc : List (List Note)), ds = ks.map (fun k => .int (k : Int)) ∧ (∀ k ∈ ks, k < 6) ∧ acc.length + ks.length = many.toNat ∧ (∀ v ∈ acc, OkVoice v ∧ v.length ≤ 63) ∧ σ = [sl "_law_script" (ids ns) [0] none, si "_law_many" many, sl "_law_piece_here" (pd acc) [1] (some 1)]) ?_ ?_ _ _ ?_
      · rintro d r σ ⟨ks, acc, hd, hks, hlen, hok, rfl⟩ R hR hret
        cases ks with
        | nil => cases hd
        | cons k ks =>
          cases hd
          have hk6 := hks k (.head _)
          have hlm : (ns.map PyData.int).length = ns.length := List.length_map _
          refine ⟨_, rfl, ?_⟩
          obtain ⟨js, er, ejs, elen⟩ := range3 (a := 3 + (k : Int)) (b := if (63 : Int) < ((ns.map PyData.int).length : Int) then 63 else ((ns.map PyData.int).length : Int)) (c := many) (by omega) (by omega) (by split <;> omega) (by split <;> omega) (by omega) (by omega)
          have hjs : ∀ j ∈ js, 0 ≤ j ∧ j < ns.length := fun j hj => by
            obtain ⟨z1, z2⟩ := ejs j hj
            split at z2 <;> omega
          have hjl : js.length ≤ 63 := by
            split at elen <;> omega
          refine seq_inv (fun σ' => σ' = [sl "_law_script" (ids ns) [0] none, si "_law_many" many, sl "_law_piece_here" (pd acc) [1] (some 1), si "_law_place" k, sl "_law_numbers" (ids (js.map fun j => ns.getD j.toNat 0)) [3] (some 3)]) (fun R' hn hr => ?_) ?_
          · refine ⟨_, rfl, ?_⟩
            refine ⟨_, rfl, ?_⟩
            refine ⟨_, _, rfl, er, ?_⟩
            refine ⟨_, comp_map PyData.int (fun j => some (.dat (.int (ns.getD j.toNat 0)), true)) js ?_, _, mkListC_map (fun j => .int (ns.getD j.toNat 0)) js, ?_⟩
            · intro j hj R hR
              refine ⟨_, rfl, ?_⟩
              refine And.intro (fun _ => ?_) (fun h => Bool.noConfusion h)
              refine ⟨_, item_ids (hjs j hj).1 (hjs j hj).2, ?_⟩
              exact hR
            exact hn _ (by rw [ids_map]; rfl)
          rintro _ rfl
          refine seq_inv (fun σ' => σ' = [sl "_law_script" (ids ns) [0] none, si "_law_many" many, sl "_law_piece_here" (pd acc) [1] (some 1), si "_law_place" k, sl "_law_numbers" (ids (js.map fun j => ns.getD j.toNat 0)) [3] (some 3), si "_law_base" (ns.getD 2 0 - 5 * k)]) (fun R' hn hr => ?_) ?_
          · refine law_at _ ns 2 (by decide) ?_
            refine ⟨mulOk_left (by decide), ?_⟩
            exact hn _ rfl
          rintro _ rfl
          refine seq_inv (fun σ' => σ' = [sl "_law_script" (ids ns) [0] none, si "_law_many" many, sl "_law_piece_here" (pd acc) [1] (some 1), si "_law_place" k, sl "_law_numbers" (ids (js.map fun j => ns.getD j.toNat 0)) [3] (some 3), si "_law_base" (ns.getD 2 0 - 5 * k), si "_law_begun" (((ns.getD 1 0).fdiv 1600 + k * (ns.getD 2 0).fdiv 401).fmod 5)]) (fun R' hn hr => ?_) ?_
          · refine law_at _ ns 1 (by decide) ?_
            refine ⟨by decide, by decide, ?_⟩
            refine law_at _ ns 2 (by decide) ?_
            refine ⟨by decide, by decide, ?_⟩
            refine ⟨mulOk_left (by omega), ?_⟩
            refine ⟨by decide, ?_⟩
            exact hn _ rfl
          rintro _ rfl
          obtain ⟨e1, e2⟩ := fm ((ns.getD 1 0).fdiv 1600 + k * (ns.getD 2 0).fdiv 401) 5 (by decide)
          have g1 := e1
          refine ⟨app_ok rfl (by rw [List.length_map]; omega), ?_⟩
          refine ⟨by decide, ?_⟩
          refine law_notes n (js.map fun j => ns.getD j.toNat 0) (((ns.getD 1 0).fdiv 1600 + k * (ns.getD 2 0).fdiv 401).fmod 5) ((ns.getD 2 0 - 5 * k).fmod 401 - 200) 1 g1 (by decide) (by decide) (by rw [List.length_map]; omega) (by rw [List.length_map]; omega) (fun v hv hv2 => ?_)
          refine ⟨rfl, ?_⟩
          simp only [List.length_cons] at hlen
          refine hR _ ⟨ks, acc ++ [v], rfl, fun k hk => hks k (.tail _ hk), by simp only [List.length_append, List.length_cons, List.length_nil]; omega, fun u hu => ?_, by rw [pd_snoc]; rfl⟩
          rcases List.mem_append.mp hu with hu | hu
          · exact hok u hu
          · cases List.mem_singleton.mp hu
            exact ⟨⟨_, hv.low g1⟩, hv2⟩
      · rintro σ ⟨ks, acc, hd, hks, hlen, hok, rfl⟩
        cases ks with
        | cons k ks => cases hd
        | nil =>
          simp only [List.length_nil] at hlen
          exact hn _ ⟨acc, ⟨⟨by omega, by omega, fun v hv => (hok v hv).1⟩, fun v hv => (hok v hv).2⟩, rfl⟩
      · refine ⟨List.range many.toNat, [], rfl, fun k hk => ?_, by simp, (fun _ h => nomatch h), rfl⟩
        have := List.mem_range.mp hk
        omega
    rintro _ ⟨p, ⟨hp, hl⟩, rfl⟩
    exact hQ p hp hl

end L04
end Mine
end

section
set_option linter.unusedVariables false
namespace Mine
open PySem
namespace L04

theorem is_note_bad (n : Nat) (m : Note) (h : ¬ OkNote m) {Q : VB → Prop} {X : Str → Prop} (hQ : Q (.dat (.bool false), true)) : pcall G (n + 2) false "is_note" [.dat (nd m)] Q X := by
  refine pcall_W rfl rfl ?_
  refine ⟨_, rfl, ?_⟩
  refine ⟨_, rfl, ?_⟩
  refine And.intro (fun h => absurd rfl h) (fun _ => ?_)
  refine is_whole_int _ _ _ ?_
  refine is_whole_int _ _ _ ?_
  refine is_whole_int _ _ _ ?_
  refine ⟨_, rfl, ?_⟩
  refine And.intro (fun _ => hQ) (fun h1 => ?_)
  refine ⟨_, rfl, ?_⟩
  refine And.intro (fun _ => hQ) (fun h2 => ?_)
  refine ⟨_, rfl, ?_⟩
  refine ⟨_, rfl, ?_⟩
  refine And.intro (fun _ => hQ) (fun h3 => ?_)
  refine ⟨_, rfl, ?_⟩
  refine And.intro (fun h4 => And.intro (fun h5 => absurd ⟨Int.not_lt.mp h1, Int.not_lt.mp h2, Int.not_lt.mp h3, h4, h5⟩ h) (fun _ => hQ)) (fun _ => hQ)

theorem in_range_ok (n : Nat) (p : List (List Note)) (h : ∀ v ∈ p, ∀ m ∈ v, OkNote m) {Q : VB → Prop} {X : Str → Prop} (hQ : Q (.dat (pd p), false)) : pcall G (n + 3) false "in_range" [.dat (pd p)] Q X := by
  refine pcall_W rfl rfl ?_
  refine turns_inv (I := fun ds σ => ∃ u : List (List Note), ds = u.map vd ∧ σ = [sl "voices" (pd p) [0] none] ∧ ∀ v ∈ u, ∀ m ∈ v, OkNote m) ?_ ?_ _ _ ⟨p, rfl, rfl, h⟩
  · rintro d r σ ⟨u, hd, rfl, hok⟩ R hR hret
    cases u with
    | nil => cases hd
    | cons v u =>
      cases hd
      refine ⟨_, rfl, ?_⟩
      refine turns_inv (I := fun ds σ => ∃ w : List Note, ds = w.map nd ∧ σ = [sl "voices" (pd p) [0] none, sl "voice" (vd v) [1, 0] none] ∧ ∀ m ∈ w, OkNote m) ?_ ?_ _ _ ⟨v, rfl, rfl, hok v (.head _)⟩
      · rintro d r σ ⟨w, hd, rfl, hw⟩ R hR hret
        cases w with
        | nil => cases hd
        | cons m w =>
          cases hd
          refine ⟨_, rfl, ?_⟩
          refine is_note_ok _ _ (hw m (.head _)) ?_
          exact hR _ ⟨w, rfl, rfl, fun m hm => hw m (.tail _ hm)⟩
      · rintro σ ⟨w, hd, rfl, hw⟩
        exact hR _ ⟨u, rfl, rfl, fun v hv => hok v (.tail _ hv)⟩
  · rintro σ ⟨u, hd, rfl, hok⟩
    exact hQ

theorem in_range_bad (n : Nat) (p : List (List Note)) (h : ∃ v ∈ p, ∃ m ∈ v, ¬ OkNote m) {Q : VB → Prop} {X : Str → Prop} (hX : X "OutOfRange") : pcall G (n + 3) false "in_range" [.dat (pd p)] Q X := by
  refine pcall_W rfl rfl ?_
  refine turns_inv (I := fun ds σ => ∃ u : List (List Note), ds = u.map vd ∧ σ = [sl "voices" (pd p) [0] none] ∧ ∃ v ∈ u, ∃ m ∈ v, ¬ OkNote m) ?_ ?_ _ _ ⟨p, rfl, rfl, h⟩
  · rintro d r σ ⟨u, hd, rfl, hok⟩ R hR hret
    cases u with
    | nil => cases hd
    | cons v u =>
      cases hd
      refine ⟨_, rfl, ?_⟩
      refine turns_inv (I := fun ds σ => ∃ w : List Note, ds = w.map nd ∧ σ = [sl "voices" (pd p) [0] none, sl "voice" (vd v) [1, 0] none] ∧ ((∃ m ∈ w, ¬ OkNote m) ∨ ∃ v ∈ u, ∃ m ∈ v, ¬ OkNote m)) ?_ ?_ _ _ ⟨v, rfl, rfl, ?_⟩
      · rintro d r σ ⟨w, hd, rfl, hw⟩ R hR hret
        cases w with
        | nil => cases hd
        | cons m w =>
          cases hd
          refine ⟨_, rfl, ?_⟩
          by_cases hm : OkNote m
          · refine is_note_ok _ _ hm ?_
            exact hR _ ⟨w, rfl, rfl, hw.imp (fun ⟨x, hx, hb⟩ => ⟨x, (List.mem_cons.mp hx).resolve_left fun e => hb (e ▸ hm), hb⟩) id⟩
          · refine is_note_bad _ _ hm ?_
            exact hX
      · rintro σ ⟨w, hd, rfl, hw⟩
        cases w with
        | cons m w => cases hd
        | nil => exact hR _ ⟨u, rfl, rfl, hw.elim (fun ⟨_, hx, _⟩ => nomatch hx) id⟩
      · obtain ⟨v', hv', m, hm, hb⟩ := hok
        exact (List.mem_cons.mp hv').elim (fun e => .inl ⟨m, e ▸ hm, hb⟩) fun hv' => .inr ⟨v', hv', m, hm, hb⟩
  · rintro σ ⟨u, hd, rfl, hok⟩
    cases u with
    | cons m u => cases hd
    | nil => obtain ⟨_, hx, _⟩ := hok; cases hx

theorem law_word_number (n : Nat) {Q : VB → Prop} {X : Str → Prop} (hQ : Q (.dat (.str "number"), true)) : pcall G (n + 1) true "_law_word" [.exc "BadNumber"] Q X := by
  refine pcall_W rfl rfl ?_
  refine ⟨_, rfl, ?_⟩
  refine ⟨_, rfl, ?_⟩
  refine ⟨_, rfl, ?_⟩
  refine ⟨_, rfl, ?_⟩
  refine ⟨_, rfl, ?_⟩
  refine ⟨_, rfl, ?_⟩
  refine .inr ⟨rfl, ?_⟩
  refine ⟨by decide, ?_⟩
  refine ⟨_, rfl, ?_⟩
  refine ⟨_, rfl, ?_⟩
  refine .inl ⟨rfl, ?_⟩
  refine ⟨by decide, ?_⟩
  refine ⟨_, rfl, ?_⟩
  refine ⟨_, rfl, ?_⟩
  refine .inl ⟨rfl, ?_⟩
  refine ⟨by decide, ?_⟩
  refine ⟨_, rfl, ?_⟩
  refine ⟨_, rfl, ?_⟩
  refine .inl ⟨rfl, ?_⟩
  refine ⟨by decide, ?_⟩
  refine ⟨_, rfl, ?_⟩
  refine ⟨_, rfl, ?_⟩
  refine .inl ⟨rfl, ?_⟩
  refine ⟨by decide, ?_⟩
  refine ⟨_, rfl, ?_⟩
  refine ⟨_, rfl, ?_⟩
  refine .inl ⟨rfl, ?_⟩
  refine ⟨by decide, ?_⟩
  refine ⟨_, rfl, ?_⟩
  refine ⟨_, rfl, ?_⟩
  refine .inl ⟨rfl, ?_⟩
  refine ⟨by decide, ?_⟩
  refine ⟨_, rfl, ?_⟩
  refine ⟨_, rfl, ?_⟩
  refine .inl ⟨rfl, ?_⟩
  refine ⟨by decide, ?_⟩
  exact hQ

theorem law_word_range (n : Nat) {Q : VB → Prop} {X : Str → Prop} (hQ : Q (.dat (.str "range"), true)) : pcall G (n + 1) true "_law_word" [.exc "OutOfRange"] Q X := by
  refine pcall_W rfl rfl ?_
  refine ⟨_, rfl, ?_⟩
  refine ⟨_, rfl, ?_⟩
  refine ⟨_, rfl, ?_⟩
  refine ⟨_, rfl, ?_⟩
  refine ⟨_, rfl, ?_⟩
  refine ⟨_, rfl, ?_⟩
  refine .inl ⟨rfl, ?_⟩
  refine ⟨by decide, ?_⟩
  refine ⟨_, rfl, ?_⟩
  refine ⟨_, rfl, ?_⟩
  refine .inr ⟨rfl, ?_⟩
  refine ⟨by decide, ?_⟩
  refine ⟨_, rfl, ?_⟩
  refine ⟨_, rfl, ?_⟩
  refine .inl ⟨rfl, ?_⟩
  refine ⟨by decide, ?_⟩
  refine ⟨_, rfl, ?_⟩
  refine ⟨_, rfl, ?_⟩
  refine .inl ⟨rfl, ?_⟩
  refine ⟨by decide, ?_⟩
  refine ⟨_, rfl, ?_⟩
  refine ⟨_, rfl, ?_⟩
  refine .inl ⟨rfl, ?_⟩
  refine ⟨by decide, ?_⟩
  refine ⟨_, rfl, ?_⟩
  refine ⟨_, rfl, ?_⟩
  refine .inl ⟨rfl, ?_⟩
  refine ⟨by decide, ?_⟩
  refine ⟨_, rfl, ?_⟩
  refine ⟨_, rfl, ?_⟩
  refine .inl ⟨rfl, ?_⟩
  refine ⟨by decide, ?_⟩
  refine ⟨_, rfl, ?_⟩
  refine ⟨_, rfl, ?_⟩
  refine .inl ⟨rfl, ?_⟩
  refine ⟨by decide, ?_⟩
  exact hQ

theorem law_same_ok (n : Nat) (p : List (List Note)) {Q : VB → Prop} {X : Str → Prop} (hQ : Q (.dat (.bool true), true)) : pcall G (n + 2) false "_law_same" [.dat (pd p), .dat (pd p)] Q X := by
  refine pcall_W rfl rfl ?_
  refine ⟨_, rfl, ?_⟩
  refine ⟨_, rfl, ?_⟩
  refine ⟨_, rfl, ?_⟩
  refine And.intro (fun h => absurd rfl h) (fun _ => ?_)
  refine turns_inv (I := fun ds σ => ∃ u : List (List Note), ds = u.map (fun v => .tuple [vd v, vd v]) ∧ σ = [sl "_law_told" (pd p) [0] none, sl "_law_due" (pd p) [0] none]) ?_ ?_ _ _ ⟨p, pairs_map _ _ p, rfl⟩
  · rintro d r σ ⟨u, hd, rfl⟩ R hR hret
    cases u with
    | nil => cases hd
    | cons v u =>
      cases hd
      refine ⟨_, rfl, ?_⟩
      refine ⟨_, rfl, ?_⟩
      refine ⟨_, rfl, ?_⟩
      refine ⟨_, rfl, ?_⟩
      refine And.intro (fun h => absurd rfl h) (fun _ => ?_)
      refine turns_inv (I := fun ds σ => ∃ w : List Note, ds = w.map (fun v => .tuple [nd v, nd v]) ∧ σ = [sl "_law_told" (pd p) [0] none, sl "_law_due" (pd p) [0] none, sl "_law_voice" (vd v) [1, 0, 0] none, sl "_law_other" (vd v) [1, 0, 0] none]) ?_ ?_ _ _ ⟨v, pairs_map _ _ v, rfl⟩
      · rintro d r σ ⟨w, hd, rfl⟩ R hR hret
        cases w with
        | nil => cases hd
        | cons m w =>
          cases hd
          refine ⟨_, rfl, ?_⟩
          refine ⟨_, rfl, ?_⟩
          refine ⟨_, comp_map PyData.int (fun _ => none) [m.1, m.2.1, m.2.2] ?_, _, rfl, ?_⟩
          · intro k hk R hR
            refine ⟨_, rfl, ?_⟩
            refine law_whole_int _ _ ?_
            refine And.intro (fun h => Bool.noConfusion h) (fun _ => ?_)
            exact hR
          refine ⟨_, rfl, ?_⟩
          refine And.intro (fun h => absurd h (by decide)) (fun _ => ?_)
          refine ⟨shaped_nd m, shaped_nd m, true, by rw [eqv_nd]; simp, ?_⟩
          exact hR _ ⟨w, rfl, rfl⟩
      · rintro σ ⟨w, hd, rfl⟩
        exact hR _ ⟨u, rfl, rfl⟩
  · rintro σ ⟨u, hd, rfl⟩
    exact hQ

end L04
end Mine
end

section
set_option linter.unusedVariables false
namespace Mine
open PySem
namespace L04

theorem vd_map {α : Type} (f : α → Note) (v : List α) : vd (v.map f) = .list (v.map fun m => nd (f m)) := by simp [vd]
theorem pd_map {α : Type} (f : α → List Note) (v : List α) : pd (v.map f) = .list (v.map fun m => vd (f m)) := by simp [pd]
/-- a note stretched; shrunk -/
def st (t : Int) (m : Note) : Note := (m.1 * t, m.2.1 * t, m.2.2)
def sk (t : Int) (m : Note) : Note := (m.1.fdiv t, m.2.1.fdiv t, m.2.2)
def stP (t : Int) (p : List (List Note)) : List (List Note) := p.map fun v => v.map (st t)
def skP (t : Int) (p : List (List Note)) : List (List Note) := p.map fun v => v.map (sk t)
/-- t does not go into a start or a long -/
def Odd (t : Int) (m : Note) : Prop := m.1.fmod t ≠ 0 ∨ m.2.1.fmod t ≠ 0
/-- no number of times -/
def BadT (d : PyData) : Prop := ∀ i, d = .int i → ¬ (1 ≤ i ∧ i ≤ 1000)

theorem need_times_ok (n : Nat) (t : Int) (h1 : 1 ≤ t) (h2 : t ≤ 1000) {Q : VB → Prop} {X : Str → Prop} (hQ : Q (.dat .none, true)) : pcall G (n + 2) false "need_times" [.dat (.int t)] Q X := by
  refine pcall_W rfl rfl ?_
  refine is_whole_int _ _ _ ?_
  refine And.intro (fun _ => ?_) (fun h => absurd h1 h)
  refine And.intro (fun _ => ?_) (fun h => absurd h2 h)
  exact hQ
theorem need_times_bad (n : Nat) (d : PyData) (h : BadT d) {Q : VB → Prop} {X : Str → Prop} (hX : X "BadNumber") : pcall G (n + 2) false "need_times" [.dat d] Q X := by
  refine pcall_W rfl rfl ?_
  by_cases hd : ∃ i, d = .int i
  · obtain ⟨i, rfl⟩ := hd
    refine is_whole_int _ _ _ ?_
    refine And.intro (fun h1 => ?_) (fun _ => hX)
    exact And.intro (fun h2 => absurd ⟨h1, h2⟩ (h i rfl)) (fun _ => hX)
  · refine is_whole_bad _ _ _ (fun i e => hd ⟨i, e⟩) ?_
    exact hX

theorem stretched_to (n : Nat) (p : List (List Note)) (t : Int) (h : OkPiece p) (h1 : 1 ≤ t) (h2 : t ≤ 1000) {Q : VB → Prop} {X : Str → Prop} (hQ : ∀ Q' : VB → Prop, (∀ q, Q (.dat (pd q), true) → Q' (.dat (pd q), false)) → pcall G (n + 5) false "in_range" [.dat (pd (stP t p))] Q' X) : pcall G (n + 6) false "stretched" [.dat (pd p), .dat (.int t)] Q X := by
  refine pcall_W rfl rfl ?_
  refine need_piece_ok _ _ h ?_
  refine ⟨rfl, ?_⟩
  refine need_times_ok _ _ h1 h2 ?_
  refine ⟨rfl, ?_⟩
  refine seq_inv (fun σ' => σ' = [sl "piece" (pd p) [0] none, si "times" t, sl "voices" (pd []) [1] (some 1)]) (fun R' hn hr => ?_) ?_
  · refine ⟨_, rfl, ?_⟩
    exact hn _ rfl
  rintro _ rfl
  refine seq_inv (fun σ' => σ' = [sl "piece" (pd p) [0] none, si "times" t, sl "voices" (pd (stP t p)) [1] (some 1)]) (fun R' hn hr => ?_) ?_
  · refine turns_inv (I := fun ds σ => ∃ u acc : List (List Note), ds = u.map vd ∧ acc ++ stP t u = stP t p ∧ acc.length + u.length ≤ 6 ∧ σ = [sl "piece" (pd p) [0] none, si "times" t, sl "voices" (pd acc) [1] (some 1)]) ?_ ?_ _ _ ⟨p, [], rfl, rfl, by have := h.hi; simpa using this, rfl⟩
    · rintro d r σ ⟨u, acc, hd, hp, hlen, rfl⟩ R hR hret
      cases u with
      | nil => cases hd
      | cons v u =>
        cases hd
        refine ⟨_, rfl, ?_⟩
        simp only [List.length_cons] at hlen
        refine ⟨app_ok rfl (by rw [List.length_map]; omega), ?_⟩
        refine ⟨_, comp_map nd (fun m => some (.dat (nd (st t m)), true)) v ?_, _, mkListC_map (fun m => nd (st t m)) v, ?_⟩
        · intro m hm R hR
          refine ⟨_, rfl, ?_⟩
          refine And.intro (fun _ => ?_) (fun h => Bool.noConfusion h)
          refine ⟨_, rfl, ?_⟩
          refine ⟨mulOk_right (by omega), ?_⟩
          refine ⟨_, rfl, ?_⟩
          refine ⟨mulOk_right (by omega), ?_⟩
          refine ⟨_, rfl, ?_⟩
          refine ⟨_, rfl, ?_⟩
          exact hR
        · refine ⟨rfl, ?_⟩
          exact hR _ ⟨u, acc ++ [v.map (st t)], rfl, by rw [← hp]; simp [stP], by simp only [List.length_append, List.length_cons, List.length_nil]; omega, by rw [pd_snoc, vd_map]; rfl⟩
    · rintro σ ⟨u, acc, hd, hp, hlen, rfl⟩
      cases u with
      | cons m u => cases hd
      | nil => exact hn _ (by rw [← hp]; simp [stP])
  rintro _ rfl
  exact hQ _ fun q h => h

/-- the look at a voice's notes in shrunk -/
theorem shrunk_to (n : Nat) (p : List (List Note)) (t : Int) (h : OkPiece p) (h1 : 1 ≤ t) (h2 : t ≤ 1000) (ev : ∀ v ∈ p, ∀ m ∈ v, ¬ Odd t m) {Q : VB → Prop} {X : Str → Prop} (hQ : ∀ Q' : VB → Prop, (∀ q, Q (.dat (pd q), true) → Q' (.dat (pd q), false)) → pcall G (n + 5) false "in_range" [.dat (pd (skP t p))] Q' X) : pcall G (n + 6) false "shrunk" [.dat (pd p), .dat (.int t)] Q X := by
  have t0 : t ≠ 0 := by omega
  refine pcall_W rfl rfl ?_
  refine need_piece_ok _ _ h ?_
  refine ⟨rfl, ?_⟩
  refine need_times_ok _ _ h1 h2 ?_
  refine ⟨rfl, ?_⟩
  refine seq_inv (fun σ' => σ' = [sl "piece" (pd p) [0] none, si "times" t, sl "voices" (pd []) [1] (some 1)]) (fun R' hn hr => ?_) ?_
  · refine ⟨_, rfl, ?_⟩
    exact hn _ rfl
  rintro _ rfl
  refine seq_inv (fun σ' => σ' = [sl "piece" (pd p) [0] none, si "times" t, sl "voices" (pd (skP t p)) [1] (some 1)]) (fun R' hn hr => ?_) ?_
  · refine turns_inv (I := fun ds σ => ∃ u acc : List (List Note), ds = u.map vd ∧ (∀ v ∈ u, ∀ m ∈ v, ¬ Odd t m) ∧ acc ++ skP t u = skP t p ∧ acc.length + u.length ≤ 6 ∧ σ = [sl "piece" (pd p) [0] none, si "times" t, sl "voices" (pd acc) [1] (some 1)]) ?_ ?_ _ _ ⟨p, [], rfl, ev, rfl, by have := h.hi; simpa using this, rfl⟩
    · rintro d r σ ⟨u, acc, hd, hu, hp, hlen, rfl⟩ R hR hret
      cases u with
      | nil => cases hd
      | cons v u =>
        cases hd
        refine ⟨_, rfl, ?_⟩
        simp only [List.length_cons] at hlen
        refine seq_inv (fun σ' => σ' = [sl "piece" (pd p) [0] none, si "times" t, sl "voices" (pd acc) [1] (some 1), sl "voice" (vd v) [2, 0] none]) (fun R' hn hr => ?_) ?_
        · refine turns_inv (I := fun ds σ => ∃ w : List Note, ds = w.map nd ∧ (∀ m ∈ w, ¬ Odd t m) ∧ σ = [sl "piece" (pd p) [0] none, si "times" t, sl "voices" (pd acc) [1] (some 1), sl "voice" (vd v) [2, 0] none]) ?_ ?_ _ _ ⟨v, rfl, hu v (.head _), rfl⟩
          · rintro d r σ ⟨w, hd, hw, rfl⟩ R hR hret
            cases w with
            | nil => cases hd
            | cons m w =>
              cases hd
              have hm := hw m (.head _)
              refine ⟨_, rfl, ?_⟩
              refine ⟨_, rfl, ?_⟩
              refine ⟨t0, ?_⟩
              refine And.intro (fun z => absurd (.inl z) hm) (fun _ => ?_)
              refine ⟨_, rfl, ?_⟩
              refine ⟨t0, ?_⟩
              refine And.intro (fun z => absurd (.inr z) hm) (fun _ => ?_)
              exact hR _ ⟨w, rfl, fun m hm => hw m (.tail _ hm), rfl⟩
          · rintro σ ⟨w, hd, hw, rfl⟩
            exact hn _ rfl
        rintro _ rfl
        refine ⟨app_ok rfl (by rw [List.length_map]; omega), ?_⟩
        refine ⟨_, comp_map nd (fun m => some (.dat (nd (sk t m)), true)) v ?_, _, mkListC_map (fun m => nd (sk t m)) v, ?_⟩
        · intro m hm R hR
          refine ⟨_, rfl, ?_⟩
          refine And.intro (fun _ => ?_) (fun h => Bool.noConfusion h)
          refine ⟨_, rfl, ?_⟩
          refine ⟨t0, by omega, ?_⟩
          refine ⟨_, rfl, ?_⟩
          refine ⟨t0, by omega, ?_⟩
          refine ⟨_, rfl, ?_⟩
          refine ⟨_, rfl, ?_⟩
          exact hR
        · refine ⟨rfl, ?_⟩
          exact hR _ ⟨u, acc ++ [v.map (sk t)], rfl, fun v hv => hu v (.tail _ hv), by rw [← hp]; simp [skP], by simp only [List.length_append, List.length_cons, List.length_nil]; omega, by rw [pd_snoc, vd_map]; rfl⟩
    · rintro σ ⟨u, acc, hd, hu, hp, hlen, rfl⟩
      cases u with
      | cons m u => cases hd
      | nil => exact hn _ (by rw [← hp]; simp [skP])
  rintro _ rfl
  exact hQ _ fun q h => h

theorem shrunk_odd (n : Nat) (p : List (List Note)) (t : Int) (h : OkPiece p) (h1 : 1 ≤ t) (h2 : t ≤ 1000) (ev : ∃ v ∈ p, ∃ m ∈ v, Odd t m) {Q : VB → Prop} {X : Str → Prop} (hX : X "Uneven") : pcall G (n + 6) false "shrunk" [.dat (pd p), .dat (.int t)] Q X := by
  have t0 : t ≠ 0 := by omega
  refine pcall_W rfl rfl ?_
  refine need_piece_ok _ _ h ?_
  refine ⟨rfl, ?_⟩
  refine need_times_ok _ _ h1 h2 ?_
  refine ⟨rfl, ?_⟩
  refine seq_inv (fun σ' => σ' = [sl "piece" (pd p) [0] none, si "times" t, sl "voices" (pd []) [1] (some 1)]) (fun R' hn hr => ?_) ?_
  · refine ⟨_, rfl, ?_⟩
    exact hn _ rfl
  rintro _ rfl
  refine turns_inv (I := fun ds σ => ∃ u acc : List (List Note), ds = u.map vd ∧ (∃ v ∈ u, ∃ m ∈ v, Odd t m) ∧ acc.length + u.length ≤ 6 ∧ σ = [sl "piece" (pd p) [0] none, si "times" t, sl "voices" (pd acc) [1] (some 1)]) ?_ ?_ _ _ ⟨p, [], rfl, ev, by have := h.hi; simpa using this, rfl⟩
  · rintro d r σ ⟨u, acc, hd, hu, hlen, rfl⟩ R hR hret
    cases u with
    | nil => cases hd
    | cons v u =>
      cases hd
      refine ⟨_, rfl, ?_⟩
      simp only [List.length_cons] at hlen
      refine seq_inv (fun σ' => (∃ v ∈ u, ∃ m ∈ v, Odd t m) ∧ σ' = [sl "piece" (pd p) [0] none, si "times" t, sl "voices" (pd acc) [1] (some 1), sl "voice" (vd v) [2, 0] none]) (fun R' hn hr => ?_) ?_
      · refine turns_inv (I := fun ds σ => ∃ w : List Note, ds = w.map nd ∧ ((∃ m ∈ w, Odd t m) ∨ ∃ v ∈ u, ∃ m ∈ v, Odd t m) ∧ σ = [sl "piece" (pd p) [0] none, si "times" t, sl "voices" (pd acc) [1] (some 1), sl "voice" (vd v) [2, 0] none]) ?_ ?_ _ _ ⟨v, rfl, ?_, rfl⟩
        · rintro d r σ ⟨w, hd, hw, rfl⟩ R hR hret
          cases w with
          | nil => cases hd
          | cons m w =>
            cases hd
            refine ⟨_, rfl, ?_⟩
            refine ⟨_, rfl, ?_⟩
            refine ⟨t0, ?_⟩
            refine And.intro (fun _ => hX) (fun z1 => ?_)
            refine ⟨_, rfl, ?_⟩
            refine ⟨t0, ?_⟩
            refine And.intro (fun _ => hX) (fun z2 => ?_)
            refine hR _ ⟨w, rfl, hw.imp (fun ⟨x, hx, hb⟩ => ⟨x, (List.mem_cons.mp hx).resolve_left fun e => ?_, hb⟩) id, rfl⟩
            subst e
            exact hb.elim z1 z2
        · rintro σ ⟨w, hd, hw, rfl⟩
          cases w with
          | cons m w => cases hd
          | nil => exact hn _ ⟨hw.elim (fun ⟨_, hx, _⟩ => nomatch hx) id, rfl⟩
        · obtain ⟨v', hv', m, hm, hb⟩ := hu
          exact (List.mem_cons.mp hv').elim (fun e => .inl ⟨m, e ▸ hm, hb⟩) fun hv' => .inr ⟨v', hv', m, hm, hb⟩
      rintro _ ⟨hu, rfl⟩
      refine ⟨app_ok rfl (by rw [List.length_map]; omega), ?_⟩
      refine ⟨_, comp_map nd (fun m => some (.dat (nd (sk t m)), true)) v ?_, _, mkListC_map (fun m => nd (sk t m)) v, ?_⟩
      · intro m hm R hR
        refine ⟨_, rfl, ?_⟩
        refine And.intro (fun _ => ?_) (fun h => Bool.noConfusion h)
        refine ⟨_, rfl, ?_⟩
        refine ⟨t0, by omega, ?_⟩
        refine ⟨_, rfl, ?_⟩
        refine ⟨t0, by omega, ?_⟩
        refine ⟨_, rfl, ?_⟩
        refine ⟨_, rfl, ?_⟩
        exact hR
      · refine ⟨rfl, ?_⟩
        exact hR _ ⟨u, acc ++ [v.map (sk t)], rfl, hu, by simp only [List.length_append, List.length_cons, List.length_nil]; omega, by rw [pd_snoc, vd_map]; rfl⟩
  · rintro σ ⟨u, acc, hd, hu, hlen, rfl⟩
    cases u with
    | cons m u => cases hd
    | nil => obtain ⟨_, hx, _⟩ := hu; cases hx

theorem law_word_uneven (n : Nat) {Q : VB → Prop} {X : Str → Prop} (hQ : Q (.dat (.str "uneven"), true)) : pcall G (n + 1) true "_law_word" [.exc "Uneven"] Q X := by
  refine pcall_W rfl rfl ?_
  refine ⟨_, rfl, ?_⟩
  refine ⟨_, rfl, ?_⟩
  refine ⟨_, rfl, ?_⟩
  refine ⟨_, rfl, ?_⟩
  refine ⟨_, rfl, ?_⟩
  refine ⟨_, rfl, ?_⟩
  refine .inl ⟨rfl, ?_⟩
  refine ⟨by decide, ?_⟩
  refine ⟨_, rfl, ?_⟩
  refine ⟨_, rfl, ?_⟩
  refine .inl ⟨rfl, ?_⟩
  refine ⟨by decide, ?_⟩
  refine ⟨_, rfl, ?_⟩
  refine ⟨_, rfl, ?_⟩
  refine .inr ⟨rfl, ?_⟩
  refine ⟨by decide, ?_⟩
  refine ⟨_, rfl, ?_⟩
  refine ⟨_, rfl, ?_⟩
  refine .inl ⟨rfl, ?_⟩
  refine ⟨by decide, ?_⟩
  refine ⟨_, rfl, ?_⟩
  refine ⟨_, rfl, ?_⟩
  refine .inl ⟨rfl, ?_⟩
  refine ⟨by decide, ?_⟩
  refine ⟨_, rfl, ?_⟩
  refine ⟨_, rfl, ?_⟩
  refine .inl ⟨rfl, ?_⟩
  refine ⟨by decide, ?_⟩
  refine ⟨_, rfl, ?_⟩
  refine ⟨_, rfl, ?_⟩
  refine .inl ⟨rfl, ?_⟩
  refine ⟨by decide, ?_⟩
  refine ⟨_, rfl, ?_⟩
  refine ⟨_, rfl, ?_⟩
  refine .inl ⟨rfl, ?_⟩
  refine ⟨by decide, ?_⟩
  exact hQ

theorem tried0_ok (n : Nat) (p : List (List Note)) (t : Int) (h : OkPiece p) (h1 : 1 ≤ t) (h2 : t ≤ 1000) (hok : ∀ v ∈ stP t p, ∀ m ∈ v, OkNote m) {Q : VB → Prop} {X : Str → Prop} (hQ : Q (.dat (pd (stP t p)), true)) : pcall G (n + 7) false "_law_tried" [.dat (.int 0), .dat (pd p), .dat (.int t)] Q X := by
  refine pcall_W rfl rfl ?_
  refine And.intro (fun _ => ?_) (fun h => absurd rfl h)
  exact stretched_to _ _ _ h h1 h2 fun Q' h' => in_range_ok _ _ hok (h' _ hQ)
theorem tried0_bad (n : Nat) (p : List (List Note)) (t : Int) (h : OkPiece p) (h1 : 1 ≤ t) (h2 : t ≤ 1000) (hb : ∃ v ∈ stP t p, ∃ m ∈ v, ¬ OkNote m) {Q : VB → Prop} {X : Str → Prop} (hQ : Q (.dat (.str "range"), true)) : pcall G (n + 7) false "_law_tried" [.dat (.int 0), .dat (pd p), .dat (.int t)] Q X := by
  refine pcall_W rfl rfl ?_
  refine And.intro (fun _ => ?_) (fun h => absurd rfl h)
  exact stretched_to _ _ _ h h1 h2 fun Q' h' => in_range_bad _ _ hb ⟨rfl, law_word_range _ hQ⟩
theorem tried1_ok (n : Nat) (p : List (List Note)) (t : Int) (h : OkPiece p) (h1 : 1 ≤ t) (h2 : t ≤ 1000) (ev : ∀ v ∈ p, ∀ m ∈ v, ¬ Odd t m) (hok : ∀ v ∈ skP t p, ∀ m ∈ v, OkNote m) {Q : VB → Prop} {X : Str → Prop} (hQ : Q (.dat (pd (skP t p)), true)) : pcall G (n + 7) false "_law_tried" [.dat (.int 1), .dat (pd p), .dat (.int t)] Q X := by
  refine pcall_W rfl rfl ?_
  refine And.intro (fun h => absurd h (by decide)) (fun _ => ?_)
  exact shrunk_to _ _ _ h h1 h2 ev fun Q' h' => in_range_ok _ _ hok (h' _ hQ)
theorem tried1_odd (n : Nat) (p : List (List Note)) (t : Int) (h : OkPiece p) (h1 : 1 ≤ t) (h2 : t ≤ 1000) (ev : ∃ v ∈ p, ∃ m ∈ v, Odd t m) {Q : VB → Prop} {X : Str → Prop} (hQ : Q (.dat (.str "uneven"), true)) : pcall G (n + 7) false "_law_tried" [.dat (.int 1), .dat (pd p), .dat (.int t)] Q X := by
  refine pcall_W rfl rfl ?_
  refine And.intro (fun h => absurd h (by decide)) (fun _ => ?_)
  exact shrunk_odd _ _ _ h h1 h2 ev ⟨rfl, law_word_uneven _ hQ⟩
theorem tried_bad (n : Nat) (p : List (List Note)) (w : Int) (d : PyData) (h : OkPiece p) (hd : BadT d) {Q : VB → Prop} {X : Str → Prop} (hQ : Q (.dat (.str "number"), true)) : pcall G (n + 7) false "_law_tried" [.dat (.int w), .dat (pd p), .dat d] Q X := by
  refine pcall_W rfl rfl ?_
  refine And.intro (fun h0 => ?_) (fun h0 => ?_)
  · refine pcall_W rfl rfl ?_
    refine need_piece_ok _ _ h ?_
    refine ⟨rfl, ?_⟩
    refine need_times_bad _ _ hd ?_
    exact ⟨rfl, law_word_number _ hQ⟩
  · refine pcall_W rfl rfl ?_
    refine need_piece_ok _ _ h ?_
    refine ⟨rfl, ?_⟩
    refine need_times_bad _ _ hd ?_
    exact ⟨rfl, law_word_number _ hQ⟩

open Classical in
theorem law_uneven (n : Nat) (p : List (List Note)) (t : Int) (h1 : 1 ≤ t) {Q : VB → Prop} {X : Str → Prop} (hQ : Q (.dat (.bool (decide (∃ v ∈ p, ∃ m ∈ v, Odd t m))), true)) : pcall G (n + 1) false "_law_uneven" [.dat (pd p), .dat (.int t)] Q X := by
  have t0 : t ≠ 0 := by omega
  have tp : 0 < t := by omega
  refine pcall_W rfl rfl ?_
  refine turns_inv (I := fun ds σ => ∃ u : List (List Note), ds = u.map vd ∧ ((∃ v ∈ u, ∃ m ∈ v, Odd t m) ↔ ∃ v ∈ p, ∃ m ∈ v, Odd t m) ∧ σ = [sl "_law_piece_here" (pd p) [0] none, si "_law_times" t]) ?_ ?_ _ _ ⟨p, rfl, .rfl, rfl⟩
  · rintro d r σ ⟨u, hd, hu, rfl⟩ R hR hret0
    cases u with
    | nil => cases hd
    | cons v u =>
      cases hd
      refine ⟨_, rfl, ?_⟩
      refine turns_inv (I := fun ds σ => ∃ w : List Note, ds = w.map nd ∧ (((∃ m ∈ w, Odd t m) ∨ ∃ v ∈ u, ∃ m ∈ v, Odd t m) ↔ ∃ v ∈ p, ∃ m ∈ v, Odd t m) ∧ σ = [sl "_law_piece_here" (pd p) [0] none, si "_law_times" t, sl "_law_voice" (vd v) [1, 0] none]) ?_ ?_ _ _ ⟨v, rfl, ?_, rfl⟩
      · rintro d r σ ⟨w, hd, hw, rfl⟩ R hR hret
        cases w with
        | nil => cases hd
        | cons m w =>
          cases hd
          obtain ⟨a0, _⟩ := fm m.1 t tp
          obtain ⟨b0, _⟩ := fm m.2.1 t tp
          have yes : Odd t m → Q (.dat (.bool true), true) := fun ho => by
            rw [decide_eq_true (hw.mp (.inl ⟨m, .head _, ho⟩))] at hQ; exact hQ
          refine ⟨_, rfl, ?_⟩
          refine ⟨_, rfl, ?_⟩
          refine ⟨t0, ?_⟩
          refine And.intro (fun z => hret _ _ (hret0 _ _ (yes (.inl (by omega))))) (fun z1 => ?_)
          refine ⟨_, rfl, ?_⟩
          refine ⟨t0, ?_⟩
          refine And.intro (fun z => hret _ _ (hret0 _ _ (yes (.inr (by omega))))) (fun z2 => ?_)
          refine hR _ ⟨w, rfl, ?_, rfl⟩
          rw [← hw]
          constructor
          · exact fun q => q.imp (fun ⟨x, hx, hb⟩ => ⟨x, .tail _ hx, hb⟩) id
          · rintro (⟨x, hx, hb⟩ | q)
            · rcases List.mem_cons.mp hx with rfl | hx
              · exact absurd hb (fun q => q.elim (fun q => q (by omega)) fun q => q (by omega))
              · exact .inl ⟨x, hx, hb⟩
            · exact .inr q
      · rintro σ ⟨w, hd, hw, rfl⟩
        cases w with
        | cons m w => cases hd
        | nil => exact hR _ ⟨u, rfl, by rw [← hw]; exact ⟨.inr, fun q => q.elim (fun ⟨_, hx, _⟩ => nomatch hx) id⟩, rfl⟩
      · rw [← hu]
        constructor
        · rintro (⟨m, hm, hb⟩ | ⟨v', hv', q⟩)
          · exact ⟨v, .head _, m, hm, hb⟩
          · exact ⟨v', .tail _ hv', q⟩
        · rintro ⟨v', hv', q⟩
          rcases List.mem_cons.mp hv' with rfl | hv'
          · exact .inl q
          · exact .inr ⟨v', hv', q⟩
  · rintro σ ⟨u, hd, hu, rfl⟩
    cases u with
    | cons m u => cases hd
    | nil =>
      have : ¬ ∃ v ∈ p, ∃ m ∈ v, Odd t m := fun q => by obtain ⟨_, hx, _⟩ := hu.mpr q; cases hx
      rw [decide_eq_false this] at hQ
      exact hQ

theorem sliceL_to {α : Type} (xs : List α) (k : Nat) (h : k ≤ xs.length) : sliceL xs none (some (k : Int)) none = xs.take k := by
  have e : sliceBounds none (some (k : Int)) none xs.length = (((0 : Nat) : Int), (k : Int), 1) := by
    simp only [sliceBounds, Option.getD_none]
    have h2 : ¬ ((k : Int) < 0) := by omega
    simp only [h2, if_false, show (1 : Int) > 0 by decide, if_true]
    congr 2
    omega
  unfold sliceL
  rw [e]
  simp only [sliceRange_one]
  have := pick_run xs.toArray 0 (k - 0)
  simpa using this
theorem sliceL_from {α : Type} (xs : List α) (k : Nat) (h : k ≤ xs.length) : sliceL xs (some (k : Int)) none none = xs.drop k := by
  have e : sliceBounds (some (k : Int)) none none xs.length = ((k : Int), (xs.length : Int), 1) := by
    simp only [sliceBounds, Option.getD_none]
    have h2 : ¬ ((k : Int) < 0) := by omega
    simp only [h2, if_false, show (1 : Int) > 0 by decide, if_true]
    congr 1
    omega
  unfold sliceL
  rw [e]
  simp only [sliceRange_one]
  have := pick_run xs.toArray k (xs.length - k)
  simp only [] at this
  rw [show (fun i => xs[i]?) = fun i => xs.toArray[i]? from funext fun i => by simp, this]
  exact List.take_of_length_le (by simp)

theorem item_pd {p : List (List Note)} {f : Bool} {k : Nat} {v : List Note} (h : p[k]? = some v) : ∃ fl, item (.dat (pd p), f) (k : Int) = some (.dat (vd v), fl) := by
  have hl := (List.getElem?_eq_some_iff.mp h).1
  obtain ⟨d, h2, h3⟩ := item_at (xs := p.map vd) (f := f) (i := (k : Int)) (by omega) (by simpa using hl)
  rw [Int.toNat_natCast, List.getElem?_map, h] at h2
  cases h2
  exact ⟨_, h3⟩
theorem item_vd {v : List Note} {f : Bool} {k : Nat} {m : Note} (h : v[k]? = some m) : item (.dat (vd v), f) (k : Int) = some (.dat (nd m), true) := by
  have hl := (List.getElem?_eq_some_iff.mp h).1
  obtain ⟨d, h2, h3⟩ := item_at (xs := v.map nd) (f := f) (i := (k : Int)) (by omega) (by simpa using hl)
  rw [Int.toNat_natCast, List.getElem?_map, h] at h2
  cases h2
  refine h3.trans ?_
  rw [show flat (nd m) = true from rfl, Bool.or_true]
theorem okSet {m m' : Note} {w : List Note} (hm : OkNote m') (h1 : m.1 ≤ m'.1) (h2 : m'.1 + m'.2.1 ≤ m.1 + m.2.1) : ∀ {u : List Note} {a b : Int}, OkTo a (u ++ m :: w) b → OkTo a (u ++ m' :: w) b
  | [], a, b, h => ⟨hm, Int.le_trans h.2.1 h1, h.2.2.low h2⟩
  | x :: u, a, b, h => ⟨h.1, h.2.1, okSet hm h1 h2 h.2.2⟩

end L04
end Mine
end

section
set_option linter.unusedVariables false
namespace Mine
open PySem
namespace L04

theorem split_at {α : Type} : ∀ (v : List α) (k : Nat) (m : α), v[k]? = some m → v = v.take k ++ m :: v.drop (k + 1)
  | [], k, m, h => by simp at h
  | x :: v, 0, m, h => by simp at h; simp [h]
  | x :: v, k + 1, m, h => by
    have := split_at v k m (by simpa using h)
    rw [List.take_succ_cons, List.drop_succ_cons, List.cons_append, ← this]

theorem law_bent (n : Nat) (q : List (List Note)) (nu : Int) (h : OkPiece q) (hl : ∀ v ∈ q, v.length ≤ 63) {Q : VB → Prop} {X : Str → Prop} (hQ : ∀ q', OkPiece q' → ∀ fl, Q (.dat (pd q'), fl)) : pcall G (n + 1) false "_law_bent" [.dat (pd q), .dat (.int nu)] Q X := by
  have hlo := h.lo
  have hhi := h.hi
  have hlen : (q.map vd).length = q.length := List.length_map _
  refine pcall_W rfl rfl ?_
  obtain ⟨f0, f1⟩ := fm nu ((q.map vd).length : Int) (by omega)
  refine seq_inv (fun σ' => ∃ k : Nat, k < q.length ∧ σ' = [sl "_law_piece_here" (pd q) [0] none, si "_law_number" nu, si "_law_at_here" k]) (fun R' hn hr => ?_) ?_
  · refine ⟨_, rfl, ?_⟩
    refine ⟨by omega, ?_⟩
    exact hn _ ⟨(nu.fmod ((q.map vd).length : Int)).toNat, by omega, by rw [Int.toNat_of_nonneg f0]; rfl⟩
  rintro _ ⟨k, hk, rfl⟩
  obtain ⟨v, hv⟩ : ∃ v, q[k]? = some v := ⟨_, List.getElem?_eq_getElem hk⟩
  have hvq : v ∈ q := List.mem_of_getElem? hv
  have hvl := hl v hvq
  refine seq_inv (fun σ' => ∃ rg tp, σ' = [sl "_law_piece_here" (pd q) [0] none, si "_law_number" nu, si "_law_at_here" k, sl "_law_voice" (vd v) rg tp]) (fun R' hn hr => ?_) ?_
  · obtain ⟨fl, e⟩ := item_pd (f := false) hv
    refine ⟨_, e, ?_⟩
    cases fl with
    | true => exact hn _ ⟨_, _, rfl⟩
    | false => exact hn _ ⟨_, _, rfl⟩
  rintro _ ⟨rg, tp, rfl⟩
  refine seq_inv (fun σ' => v ≠ [] ∧ σ' = [sl "_law_piece_here" (pd q) [0] none, si "_law_number" nu, si "_law_at_here" k, sl "_law_voice" (vd v) rg tp]) (fun R' hn hr => ?_) ?_
  · refine ⟨_, rfl, ?_⟩
    refine ⟨shaped_vd v, rfl, _, rfl, ?_⟩
    cases v with
    | nil => exact hr _ _ (hQ q h _)
    | cons m v => exact hn _ ⟨List.cons_ne_nil _ _, rfl⟩
  rintro _ ⟨hne, rfl⟩
  have hvp : 0 < v.length := List.length_pos_iff.mpr hne
  have hvn : (v.map nd).length = v.length := List.length_map _
  obtain ⟨g0, g1⟩ := fm (nu.fdiv ((q.map vd).length : Int)) ((v.map nd).length : Int) (by omega)
  refine seq_inv (fun σ' => ∃ j : Nat, j < v.length ∧ σ' = [sl "_law_piece_here" (pd q) [0] none, si "_law_number" nu, si "_law_at_here" k, sl "_law_voice" (vd v) rg tp, si "_law_beside" j]) (fun R' hn hr => ?_) ?_
  · refine ⟨_, rfl, ?_⟩
    refine ⟨by omega, by omega, ?_⟩
    refine ⟨_, rfl, ?_⟩
    refine ⟨by omega, ?_⟩
    exact hn _ ⟨((nu.fdiv ((q.map vd).length : Int)).fmod ((v.map nd).length : Int)).toNat, by omega, by rw [Int.toNat_of_nonneg g0]; rfl⟩
  rintro _ ⟨j, hj, rfl⟩
  obtain ⟨m, hm⟩ : ∃ m, v[j]? = some m := ⟨_, List.getElem?_eq_getElem hj⟩
  obtain ⟨b, hb⟩ := h.all v hvq
  have hmo : OkNote m := hb.mem (List.mem_of_getElem? hm)
  obtain ⟨o1, o2, o3, o4, o5⟩ := hmo
  refine seq_inv (fun σ' => σ' = [sl "_law_piece_here" (pd q) [0] none, si "_law_number" nu, si "_law_at_here" k, sl "_law_voice" (vd v) rg tp, si "_law_beside" j, sl "_law_note" (nd m) [] none]) (fun R' hn hr => ?_) ?_
  · refine ⟨_, item_vd hm, ?_⟩
    exact hn _ rfl
  rintro _ rfl
  refine seq_inv (fun σ' => ∃ m' : Note, (OkNote m' ∧ m.1 ≤ m'.1 ∧ m'.1 + m'.2.1 ≤ m.1 + m.2.1) ∧ σ' = [sl "_law_piece_here" (pd q) [0] none, si "_law_number" nu, si "_law_at_here" k, sl "_law_voice" (vd v) rg tp, si "_law_beside" j, sl "_law_note" (nd m') [] none]) (fun R' hn hr => ?_) ?_
  · have same : (OkNote m ∧ m.1 ≤ m.1 ∧ m.1 + m.2.1 ≤ m.1 + m.2.1) := ⟨⟨o1, o2, o3, o4, o5⟩, Int.le_refl _, Int.le_refl _⟩
    have two : wask (1 < m.2.1) (fun b => (match b with | true => R' (.next [sl "_law_piece_here" (pd q) [0] none, si "_law_number" nu, si "_law_at_here" k, sl "_law_voice" (vd v) rg tp, si "_law_beside" j, sl "_law_note" (nd (m.1 + 1, m.2.1 - 1, m.2.2)) [] none]) | false => R' (.next [sl "_law_piece_here" (pd q) [0] none, si "_law_number" nu, si "_law_at_here" k, sl "_law_voice" (vd v) rg tp, si "_law_beside" j, sl "_law_note" (nd m) [] none]))) (fun _ => False) := ⟨fun z => hn _ ⟨(m.1 + 1, m.2.1 - 1, m.2.2), ⟨⟨by simp only; omega, by simp only; omega, by simp only; omega, o4, o5⟩, by simp only; omega, by simp only; omega⟩, rfl⟩, fun _ => hn _ ⟨m, same, rfl⟩⟩
    refine ⟨by decide, by decide, ?_⟩
    refine ⟨by decide, ?_⟩
    refine And.intro (fun _ => ?_) (fun _ => ?_)
    · refine ⟨_, rfl, ?_⟩
      refine And.intro (fun z => ?_) (fun z => ?_)
      · refine ⟨_, rfl, ?_⟩
        refine ⟨_, rfl, ?_⟩
        refine ⟨_, rfl, ?_⟩
        refine ⟨_, rfl, ?_⟩
        exact hn _ ⟨(m.1, m.2.1 - 1, m.2.2), ⟨⟨o1, by simp only; omega, by simp only; omega, o4, o5⟩, Int.le_refl _, by simp only; omega⟩, rfl⟩
      · refine ⟨_, rfl, ?_⟩
        exact And.intro (fun z' => absurd z' z) (fun _ => two.2 z)
    · refine ⟨_, rfl, ?_⟩
      refine And.intro (fun z => ?_) (fun z => two.2 z)
      refine ⟨_, rfl, ?_⟩
      refine ⟨_, rfl, ?_⟩
      refine ⟨_, rfl, ?_⟩
      refine ⟨_, rfl, ?_⟩
      exact two.1 z
  rintro _ ⟨m', ⟨hm1, hm2, hm3⟩, rfl⟩
  refine seq_inv (fun σ' => ∃ s : Slot, s.v = .dat (vd (v.take j ++ m' :: v.drop (j + 1))) ∧ σ' = [sl "_law_piece_here" (pd q) [0] none, si "_law_number" nu, si "_law_at_here" k, ("_law_voice", s), si "_law_beside" j, sl "_law_note" (nd m') [] none]) (fun R' hn hr => ?_) ?_
  · refine ⟨by decide, _, sliceL_to (v.map nd) j (by omega), _, rfl, ?_⟩
    refine ⟨_, rfl, ?_⟩
    refine ⟨by simp only [List.length_take, List.length_cons, List.length_nil]; omega, _, rfl, ?_⟩
    refine ⟨by decide, _, sliceL_from (v.map nd) (j + 1) (by omega), _, rfl, ?_⟩
    refine ⟨by simp only [List.length_append, List.length_take, List.length_drop, List.length_cons, List.length_nil]; omega, _, rfl, ?_⟩
    exact hn _ ⟨_, (slotOf_v _ _ _).trans (by rw [show vd (v.take j ++ m' :: v.drop (j + 1)) = .list (((v.map nd).take j ++ [nd m']) ++ (v.map nd).drop (j + 1)) by simp [vd]]), rfl⟩
  rintro _ ⟨⟨s, rg', tp'⟩, hs, rfl⟩
  cases hs
  have hq' : OkPiece (q.take k ++ (v.take j ++ m' :: v.drop (j + 1)) :: q.drop (k + 1)) := by
    have hsp := split_at q k v hv
    have hle := congrArg List.length hsp
    simp only [List.length_append, List.length_cons] at hle
    refine ⟨by simp only [List.length_append, List.length_cons]; omega, by simp only [List.length_append, List.length_cons]; omega, fun u hu => ?_⟩
    rcases List.mem_append.mp hu with hu | hu
    · exact h.all u (List.mem_of_mem_take hu)
    · rcases List.mem_cons.mp hu with rfl | hu
      · rw [split_at v j m hm] at hb
        exact ⟨b, okSet hm1 hm2 hm3 hb⟩
      · exact h.all u (List.mem_of_mem_drop hu)
  have fin : ∀ t rs r fl, r.1 = .dat (pd (q.take k ++ (v.take j ++ m' :: v.drop (j + 1)) :: q.drop (k + 1))) → Q ((slotOf t rs r).v, fl) := fun t rs r fl e => by rw [slotOf_v, e]; exact hQ _ hq' fl
  refine ⟨by decide, _, sliceL_to (q.map vd) k (by omega), _, rfl, ?_⟩
  refine ⟨_, rfl, ?_⟩
  refine ⟨by simp only [List.length_take, List.length_cons, List.length_nil]; omega, _, rfl, ?_⟩
  refine ⟨by decide, _, sliceL_from (q.map vd) (k + 1) (by omega), _, rfl, ?_⟩
  refine ⟨by simp only [List.length_append, List.length_take, List.length_drop, List.length_cons, List.length_nil]; omega, _, rfl, ?_⟩
  refine fin _ _ _ _ ?_
  rw [show pd (q.take k ++ (v.take j ++ m' :: v.drop (j + 1)) :: q.drop (k + 1)) = .list (((q.map vd).take k ++ [vd (v.take j ++ m' :: v.drop (j + 1))]) ++ (q.map vd).drop (k + 1)) by simp [pd]]

end L04
end Mine
end

section
set_option linter.unusedVariables false
namespace Mine
open PySem
namespace L04

theorem okAny {v : List Note} {a b : Int} (h : OkTo a v b) (hm : ∀ m ∈ v, OkNote m) : OkVoice v := by
  cases v with
  | nil => exact ⟨0, Int.le_refl 0⟩
  | cons m r => exact ⟨b, h.1, h.1.a, h.2.2⟩
theorem okSt (t : Int) (ht : 0 ≤ t) : ∀ {v : List Note} {a b : Int}, OkTo a v b → (∀ m ∈ v.map (st t), OkNote m) → OkTo (a * t) (v.map (st t)) (b * t)
  | [], a, b, h, _ => Int.mul_le_mul_of_nonneg_right h ht
  | m :: r, a, b, h, hm => by
    refine ⟨hm _ (.head _), Int.mul_le_mul_of_nonneg_right h.2.1 ht, ?_⟩
    have := okSt t ht h.2.2 fun m hm' => hm m (.tail _ hm')
    rw [Int.add_mul] at this
    exact this
theorem pSt {p : List (List Note)} (h : OkPiece p) (t : Int) (ht : 0 ≤ t) (hok : ∀ v ∈ stP t p, ∀ m ∈ v, OkNote m) : OkPiece (stP t p) := by
  refine ⟨by rw [stP, List.length_map]; exact h.lo, by rw [stP, List.length_map]; exact h.hi, fun v hv => ?_⟩
  have hv' := hok v hv
  unfold stP at hv
  obtain ⟨u, hu, rfl⟩ := List.mem_map.mp hv
  obtain ⟨b, hb⟩ := h.all u hu
  exact okAny (okSt t ht hb hv') hv'
theorem sk_st (t : Int) (ht : t ≠ 0) (m : Note) : sk t (st t m) = m := by
  obtain ⟨a, b, c⟩ := m
  show ((a * t).fdiv t, (b * t).fdiv t, c) = (a, b, c)
  rw [Int.mul_fdiv_cancel _ ht, Int.mul_fdiv_cancel _ ht]
theorem skP_stP (t : Int) (ht : t ≠ 0) (p : List (List Note)) : skP t (stP t p) = p := by
  simp only [skP, stP, List.map_map]
  rw [show ((fun v => List.map (sk t) v) ∘ fun v => List.map (st t) v) = id from funext fun v => by
    simp only [Function.comp, List.map_map, id]
    rw [show sk t ∘ st t = id from funext fun m => sk_st t ht m, List.map_id]]
  exact List.map_id p
theorem st_even (t : Int) (p : List (List Note)) : ∀ v ∈ stP t p, ∀ m ∈ v, ¬ Odd t m := fun v hv m hm => by
  unfold stP at hv
  obtain ⟨u, hu, rfl⟩ := List.mem_map.mp hv
  obtain ⟨x, hx, rfl⟩ := List.mem_map.mp hm
  rintro (h | h)
  · exact h (Int.mul_fmod_left _ _)
  · exact h (Int.mul_fmod_left _ _)
theorem pNotes {p : List (List Note)} (h : OkPiece p) : ∀ v ∈ p, ∀ m ∈ v, OkNote m := fun v hv m hm => let ⟨_, hb⟩ := h.all v hv; hb.mem hm

/-- E is the greatest end, or 1 -/
structure EndOf (p : List (List Note)) (E : Int) : Prop where
  lo : 1 ≤ E
  all : ∀ v ∈ p, ∀ m ∈ v, m.1 + m.2.1 ≤ E
  one : E = 1 ∨ ∃ v ∈ p, ∃ m ∈ v, m.1 + m.2.1 = E
theorem end_bad {p : List (List Note)} {E t : Int} (h : EndOf p E) (hp : OkPiece p) (ht : 1 ≤ t) (ht' : t ≤ 1000) : (∃ v ∈ stP t p, ∃ m ∈ v, ¬ OkNote m) ↔ (100000 < E * t ∧ p ≠ p.map fun _ => []) := by
  constructor
  · rintro ⟨v, hv, m, hm, hb⟩
    unfold stP at hv
    obtain ⟨u, hu, rfl⟩ := List.mem_map.mp hv
    obtain ⟨x, hx, rfl⟩ := List.mem_map.mp hm
    obtain ⟨o1, o2, o3, o4, o5⟩ := pNotes hp u hu x hx
    have e := h.all u hu x hx
    have e1 : (x.1 + x.2.1) * t ≤ E * t := Int.mul_le_mul_of_nonneg_right e (by omega)
    rw [Int.add_mul] at e1
    refine ⟨?_, fun q => ?_⟩
    · apply Classical.byContradiction
      intro hn
      have a1 : 0 ≤ x.1 * t := Int.mul_nonneg o1 (by omega)
      have a2 : 1 * 1 ≤ x.2.1 * t := Int.mul_le_mul o2 ht (by omega) (by omega)
      exact hb ⟨a1, by simpa [st] using a2, by simp only [st]; omega, o4, o5⟩
    · rw [q] at hu
      obtain ⟨_, _, rfl⟩ := List.mem_map.mp hu
      cases hx
  · rintro ⟨hE, hne⟩
    have some : ∃ v ∈ p, ∃ m, m ∈ v := by
      apply Classical.byContradiction
      intro hn
      refine hne ?_
      have : ∀ v ∈ p, v = [] := fun v hv => List.eq_nil_iff_forall_not_mem.mpr fun m hm => hn ⟨v, hv, m, hm⟩
      clear h hp hne hn
      induction p with
      | nil => rfl
      | cons v p ih => rw [List.map_cons, this v (.head _), ← ih fun v hv => this v (.tail _ hv)]
    have at_ : ∃ v ∈ p, ∃ m ∈ v, m.1 + m.2.1 = E := by
      rcases h.one with e | e
      · obtain ⟨v, hv, m, hm⟩ := some
        obtain ⟨o1, o2, _, _, _⟩ := pNotes hp v hv m hm
        have := h.all v hv m hm
        exact ⟨v, hv, m, hm, by omega⟩
      · exact e
    obtain ⟨v, hv, m, hm, e⟩ := at_
    refine ⟨v.map (st t), List.mem_map.mpr ⟨v, hv, rfl⟩, st t m, List.mem_map.mpr ⟨m, hm, rfl⟩, fun ho => ?_⟩
    have := ho.c
    simp only [st] at this
    rw [← Int.add_mul, e] at this
    omega

/-- the statements under an if -/
theorem branch {x : WXv} {lk : List Nat} {σ : Sg} {b o : List Stmt} {dom : List Str} {Q : Out → Prop} {X : Str → Prop} (h : wruns x lk σ b (fun out => masked o dom out Q X) X) : wbind (wruns x lk σ b) (masked o dom) Q X := h
abbrev fnLaw : Fn := ((G.fns.lookup ("law" : Str)).getD ⟨[], [], []⟩)
abbrev fnOwn : Fn := ((G.fns.lookup ("_law_own" : Str)).getD ⟨[], [], []⟩)
def andE : List Stmt → Expr
  | [.Return (some (.BoolOp .And [_, e] _)) _] => e
  | _ :: r => andE r
  | [] => .Name "" ⟨0, 0, 0, 0⟩


set_option maxHeartbeats 2000000 in
open Classical in
theorem law (ns : List Int) (hl : ns.length ≤ 63) : LawW G fnLaw fnOwn "_law_script" "_law_again" "_law_told" "_law_due" (andE fnLaw.body) fnLaw.body.dropLast (ids ns) := by
    show wruns _ _ _ _ _ _
    refine seq_inv (fun σ' => ∃ p, OkPiece p ∧ (∀ v ∈ p, v.length ≤ 63) ∧ σ' = [sl "_law_script" (ids ns) [0] none, sl "_law_piece_here" (pd p) [1] (some 1)]) (fun R' hn hr => ?_) ?_
    · refine law_piece _ ns hl (fun p hp hps => ?_)
      exact hn _ ⟨p, hp, hps, rfl⟩
    rintro _ ⟨p, hp, hps, rfl⟩
    refine seq_inv (fun σ' => σ' = [sl "_law_script" (ids ns) [0] none, sl "_law_piece_here" (pd p) [1] (some 1), sl "_law_handed" (pd p) [2] (some 2)]) (fun R' hn hr => ?_) ?_
    · refine ⟨_, comp_map vd (fun v => some (.dat (vd v), true)) p ?_, _, mkListC_map vd p, ?_⟩
      · intro v hv R hR
        refine ⟨_, rfl, ?_⟩
        refine And.intro (fun _ => ?_) (fun h => Bool.noConfusion h)
        refine ⟨_, list_vd v false, ?_⟩
        exact hR
      exact hn _ rfl
    rintro _ rfl
    refine seq_inv (fun σ' => σ' = [sl "_law_script" (ids ns) [0] none, sl "_law_piece_here" (pd p) [1] (some 1), sl "_law_handed" (pd p) [2] (some 2), si "_law_end" 1]) (fun R' hn hr => ?_) ?_
    · exact hn _ rfl
    rintro _ rfl
    refine seq_inv (fun σ' => ∃ E : Int, EndOf p E ∧ σ' = [sl "_law_script" (ids ns) [0] none, sl "_law_piece_here" (pd p) [1] (some 1), sl "_law_handed" (pd p) [2] (some 2), si "_law_end" E]) (fun R' hn hr => ?_) ?_
    · refine turns_inv (I := fun ds σ => ∃ (u : List (List Note)) (E : Int), ds = u.map vd ∧ (∀ v ∈ u, v ∈ p) ∧ (1 ≤ E ∧ (∀ v ∈ p, (∀ m ∈ v, m.1 + m.2.1 ≤ E) ∨ v ∈ u) ∧ (E = 1 ∨ ∃ v ∈ p, ∃ m ∈ v, m.1 + m.2.1 = E)) ∧ σ = [sl "_law_script" (ids ns) [0] none, sl "_law_piece_here" (pd p) [1] (some 1), sl "_law_handed" (pd p) [2] (some 2), si "_law_end" E]) ?_ ?_ _ _ ?_
      · rintro d r σ ⟨u, E, hd, hu, ⟨h1, h2, h3⟩, rfl⟩ R hR hret
        cases u with
        | nil => cases hd
        | cons v u =>
          cases hd
          refine ⟨_, rfl, ?_⟩
          refine turns_inv (I := fun ds σ => ∃ (w : List Note) (E : Int), ds = w.map nd ∧ (∀ m ∈ w, m ∈ v) ∧ (1 ≤ E ∧ (∀ v' ∈ p, (∀ m ∈ v', m.1 + m.2.1 ≤ E) ∨ v' ∈ v :: u) ∧ (∀ m ∈ v, m.1 + m.2.1 ≤ E ∨ m ∈ w) ∧ (E = 1 ∨ ∃ v ∈ p, ∃ m ∈ v, m.1 + m.2.1 = E)) ∧ σ = [sl "_law_script" (ids ns) [0] none, sl "_law_piece_here" (pd p) [1] (some 1), sl "_law_handed" (pd p) [2] (some 2), si "_law_end" E, sl "_law_voice" (vd v) [3, 1] none]) ?_ ?_ _ _ ?_
          · rintro d r σ ⟨w, E, hd, hw, ⟨h1, h2, h4, h3⟩, rfl⟩ R hR hret
            cases w with
            | nil => cases hd
            | cons m w =>
              cases hd
              refine ⟨_, rfl, ?_⟩
              refine ⟨_, rfl, ?_⟩
              refine ⟨_, rfl, ?_⟩
              refine ⟨_, rfl, ?_⟩
              refine hR _ ⟨w, _, rfl, fun m hm => hw m (.tail _ hm), ⟨?_, ?_, ?_, ?_⟩, rfl⟩
              · split <;> omega
              · intro v' hv'
                refine (h2 v' hv').imp (fun q m' hm' => ?_) id
                have := q m' hm'
                split <;> omega
              · intro m' hm'
                rcases h4 m' hm' with q | q
                · left; split <;> omega
                · rcases List.mem_cons.mp q with rfl | q
                  · left; split <;> omega
                  · exact .inr q
              · split
                · exact .inr ⟨v, hu v (.head _), m, hw m (.head _), rfl⟩
                · exact h3
          · rintro σ ⟨w, E, hd, hw, ⟨h1, h2, h4, h3⟩, rfl⟩
            cases w with
            | cons m w => cases hd
            | nil =>
              refine hR _ ⟨u, E, rfl, fun v hv => hu v (.tail _ hv), ⟨h1, fun v' hv' => ?_, h3⟩, rfl⟩
              rcases h2 v' hv' with q | q
              · exact .inl q
              · rcases List.mem_cons.mp q with rfl | q
                · exact .inl fun m hm => (h4 m hm).elim id fun q => nomatch q
                · exact .inr q
          · exact ⟨v, E, rfl, fun m hm => hm, ⟨h1, h2, fun m hm => .inr hm, h3⟩, rfl⟩
      · rintro σ ⟨u, E, hd, hu, ⟨h1, h2, h3⟩, rfl⟩
        cases u with
        | cons m w => cases hd
        | nil => exact hn _ ⟨E, ⟨h1, fun v hv => (h2 v hv).elim id (fun q => nomatch q), h3⟩, rfl⟩
      · exact ⟨p, 1, rfl, fun v hv => hv, ⟨Int.le_refl 1, fun v hv => .inr hv, .inl rfl⟩, rfl⟩
    rintro _ ⟨E, hE, rfl⟩
    have hE5 : E ≤ 100000 := by
      rcases hE.one with e | ⟨v, hv, m, hm, e⟩
      · omega
      · have := (pNotes hp v hv m hm).c
        omega
    have hE1 := hE.lo
    obtain ⟨n0, n1⟩ := fm (ns.getD 0 0 * 48271 + ns.getD 1 0 * 16807 + ns.getD 2 0) 1000003 (by decide)
    refine seq_inv (fun σ' => ∃ nu : Int, (0 ≤ nu ∧ nu < 1000003) ∧ σ' = [sl "_law_script" (ids ns) [0] none, sl "_law_piece_here" (pd p) [1] (some 1), sl "_law_handed" (pd p) [2] (some 2), si "_law_end" E, si "_law_number" nu]) (fun R' hn hr => ?_) ?_
    · refine law_at _ ns 0 (by decide) ?_
      refine ⟨mulOk_right (by decide), ?_⟩
      refine law_at _ ns 1 (by decide) ?_
      refine ⟨mulOk_right (by decide), ?_⟩
      refine law_at _ ns 2 (by decide) ?_
      refine ⟨by decide, ?_⟩
      exact hn _ ⟨_, ⟨n0, n1⟩, rfl⟩
    rintro _ ⟨nu, hnu, rfl⟩
    refine seq_inv (fun σ' => σ' = [sl "_law_script" (ids ns) [0] none, sl "_law_piece_here" (pd p) [1] (some 1), sl "_law_handed" (pd p) [2] (some 2), si "_law_end" E, si "_law_number" nu]) (fun R' hn hr => ?_) ?_
    · refine ⟨by decide, ?_⟩
      refine And.intro (fun _ => ?_) (fun _ => hn _ rfl)
      obtain ⟨o0, o1⟩ := fm (nu.fdiv 7) 10 (by decide)
      obtain ⟨d, hd, ed⟩ := item_at (xs := [.int 0, .int 1001, .int (-1 - (if nu < 0 then -nu else nu)), .bool true, .none, .str "2", .int (1001 + (if nu < 0 then -nu else nu)), .list [.int 2], .dict [], .bool false]) (f := true) o0 o1
      have hdi : BadT d := fun i e => by
        have := List.mem_of_getElem? hd
        rw [e] at this
        simp at this
        split at this <;> omega
      refine branch ?_
      refine seq_inv (fun σ' => ∃ s : Slot, s.v = .dat d ∧ σ' = [sl "_law_script" (ids ns) [0] none, sl "_law_piece_here" (pd p) [1] (some 1), sl "_law_handed" (pd p) [2] (some 2), si "_law_end" E, si "_law_number" nu, ("_law_odd", s)]) (fun R'' hn' hr' => ?_) ?_
      · refine ⟨_, rfl, ?_⟩
        refine ⟨_, rfl, ?_⟩
        refine ⟨_, rfl, ?_⟩
        refine ⟨_, rfl, ?_⟩
        refine ⟨by decide, by decide, ?_⟩
        refine ⟨by decide, ?_⟩
        refine ⟨_, ed, ?_⟩
        exact hn' _ ⟨_, slotOf_v _ _ _, rfl⟩
      rintro _ ⟨⟨v, rg, tp⟩, hv, rfl⟩
      cases hv
      refine tried_bad _ _ _ _ hp hdi ?_
      refine tried_bad _ _ _ _ hp hdi ?_
      refine ⟨_, rfl, ?_⟩
      refine ⟨_, rfl, ?_⟩
      refine ⟨by decide +kernel, by decide +kernel, true, by decide +kernel, ?_⟩
      exact hr _ _ rfl
    rintro _ rfl
    obtain ⟨x1, x2⟩ := fm (nu.fdiv 4) 12 (by decide)
    obtain ⟨y1, y2⟩ := fm (nu.fdiv 4) 1000 (by decide)
    obtain ⟨w1, w2⟩ := fm (nu.fdiv 4) 2 (by decide)
    refine seq_inv (fun σ' => ∃ t : Int, (1 ≤ t ∧ t ≤ 1000) ∧ σ' = [sl "_law_script" (ids ns) [0] none, sl "_law_piece_here" (pd p) [1] (some 1), sl "_law_handed" (pd p) [2] (some 2), si "_law_end" E, si "_law_number" nu, si "_law_times" t]) (fun R' hn hr => ?_) ?_
    · refine ⟨by decide, by decide, ?_⟩
      refine ⟨by decide, ?_⟩
      exact hn _ ⟨_, ⟨by omega, by omega⟩, rfl⟩
    rintro _ ⟨t, ht, rfl⟩
    refine seq_inv (fun σ' => ∃ t : Int, (1 ≤ t ∧ t ≤ 1000) ∧ σ' = [sl "_law_script" (ids ns) [0] none, sl "_law_piece_here" (pd p) [1] (some 1), sl "_law_handed" (pd p) [2] (some 2), si "_law_end" E, si "_law_number" nu, si "_law_times" t]) (fun R' hn hr => ?_) ?_
    · refine ⟨by decide, ?_⟩
      refine And.intro (fun _ => ?_) (fun _ => hn _ ⟨t, ht, rfl⟩)
      refine ⟨by decide, by decide, ?_⟩
      refine ⟨by decide, ?_⟩
      exact hn _ ⟨_, ⟨by omega, by omega⟩, rfl⟩
    clear ht
    rintro _ ⟨t, ht, rfl⟩
    refine seq_inv (fun σ' => ∃ t : Int, (1 ≤ t ∧ t ≤ 1000) ∧ σ' = [sl "_law_script" (ids ns) [0] none, sl "_law_piece_here" (pd p) [1] (some 1), sl "_law_handed" (pd p) [2] (some 2), si "_law_end" E, si "_law_number" nu, si "_law_times" t]) (fun R' hn hr => ?_) ?_
    · refine ⟨by decide, ?_⟩
      refine And.intro (fun _ => ?_) (fun _ => hn _ ⟨t, ht, rfl⟩)
      refine ⟨by omega, by omega, ?_⟩
      refine ⟨by decide, by decide, ?_⟩
      refine ⟨by decide, ?_⟩
      refine ⟨_, rfl, ?_⟩
      have z1 : 1 ≤ (100000 : Int).fdiv E := by
        rw [Int.fdiv_eq_ediv_of_nonneg _ (by omega)]
        exact (Int.le_ediv_iff_mul_le (by omega)).mpr (by omega)
      exact hn _ ⟨_, ⟨by split <;> omega, by split <;> omega⟩, rfl⟩
    clear ht t
    rintro _ ⟨t, ⟨ht1, ht2⟩, rfl⟩
    have hbi := end_bad hE hp ht1 ht2
    by_cases hbad : ∃ v ∈ stP t p, ∃ m ∈ v, ¬ OkNote m
    · refine seq_inv (fun σ' => ∃ tp, σ' = [sl "_law_script" (ids ns) [0] none, sl "_law_piece_here" (pd p) [1] (some 1), sl "_law_handed" (pd p) [2] (some 2), si "_law_end" E, si "_law_number" nu, si "_law_times" t, ("_law_told", ⟨.dat (.str "range"), [], tp⟩)]) (fun R' hn hr => ?_) ?_
      · refine tried0_bad _ _ _ hp ht1 ht2 hbad ?_
        exact hn _ ⟨_, rfl⟩
      rintro _ ⟨tp, rfl⟩
      obtain ⟨q1, q2⟩ := hbi.mp hbad
      refine ⟨mulOk_right (by omega), ?_⟩
      refine And.intro (fun _ => ?_) (fun h => absurd q1 h)
      refine ⟨_, comp_map vd (fun _ => some (.dat (.list []), true)) p ?_, _, mkListC_map (fun _ => .list []) p, ?_⟩
      · intro v hv R hR
        refine ⟨_, rfl, ?_⟩
        refine And.intro (fun _ => ?_) (fun h => Bool.noConfusion h)
        refine ⟨_, rfl, ?_⟩
        exact hR
      rw [show (PyData.list (p.map fun _ => .list [])) = pd (p.map fun _ => []) by simp [pd, vd]]
      refine ⟨shaped_pd _, shaped_pd _, false, by rw [eqv_pd, decide_eq_false q2], ?_⟩
      refine ⟨_, rfl, ?_⟩
      refine ⟨by decide +kernel, by decide +kernel, true, by decide +kernel, ?_⟩
      refine ⟨shaped_pd p, shaped_pd p, true, by rw [eqv_pd]; simp, ?_⟩
      rfl
    have hgood : ∀ v ∈ stP t p, ∀ m ∈ v, OkNote m := fun v hv m hm => Classical.byContradiction fun h => hbad ⟨v, hv, m, hm, h⟩
    refine seq_inv (fun σ' => ∃ tt, tt ≠ 0 ∧ tt ∉ regsOf [sl "_law_script" (ids ns) [0] none, sl "_law_piece_here" (pd p) [1] (some 1), sl "_law_handed" (pd p) [2] (some 2), si "_law_end" E, si "_law_number" nu, si "_law_times" t] ∧ σ' = [sl "_law_script" (ids ns) [0] none, sl "_law_piece_here" (pd p) [1] (some 1), sl "_law_handed" (pd p) [2] (some 2), si "_law_end" E, si "_law_number" nu, si "_law_times" t, sl "_law_told" (pd (stP t p)) [tt] (some tt)]) (fun R' hn hr => ?_) ?_
    · refine tried0_ok _ _ _ hp ht1 ht2 hgood ?_
      exact hn _ ⟨_, fresh_pos, fresh_not, rfl⟩
    rintro _ ⟨tt, tt0, htt, rfl⟩
    refine seq_inv (fun σ' => σ' = [sl "_law_script" (ids ns) [0] none, sl "_law_piece_here" (pd p) [1] (some 1), sl "_law_handed" (pd p) [2] (some 2), si "_law_end" E, si "_law_number" nu, si "_law_times" t, sl "_law_told" (pd (stP t p)) [tt] (some tt)]) (fun R' hn hr => ?_) ?_
    · refine ⟨mulOk_right (by omega), ?_⟩
      refine And.intro (fun z => ?_) (fun _ => hn _ rfl)
      refine ⟨_, comp_map vd (fun _ => some (.dat (.list []), true)) p ?_, _, mkListC_map (fun _ => .list []) p, ?_⟩
      · intro v hv R hR
        refine ⟨_, rfl, ?_⟩
        refine And.intro (fun _ => ?_) (fun h => Bool.noConfusion h)
        refine ⟨_, rfl, ?_⟩
        exact hR
      rw [show (PyData.list (p.map fun _ => .list [])) = pd (p.map fun _ => []) by simp [pd, vd]]
      refine ⟨shaped_pd _, shaped_pd _, true, ?_, ?_⟩
      · rw [eqv_pd]
        exact decide_eq_true (Classical.byContradiction fun q => hbad (hbi.mpr ⟨z, q⟩))
      exact hn _ rfl
    rintro _ rfl
    refine seq_inv (fun σ' => ∃ td, td ∉ regsOf [sl "_law_script" (ids ns) [0] none, sl "_law_piece_here" (pd p) [1] (some 1), sl "_law_handed" (pd p) [2] (some 2), si "_law_end" E, si "_law_number" nu, si "_law_times" t, sl "_law_told" (pd (stP t p)) [tt] (some tt)] ∧ σ' = [sl "_law_script" (ids ns) [0] none, sl "_law_piece_here" (pd p) [1] (some 1), sl "_law_handed" (pd p) [2] (some 2), si "_law_end" E, si "_law_number" nu, si "_law_times" t, sl "_law_told" (pd (stP t p)) [tt] (some tt), sl "_law_due" (pd (stP t p)) [td] (some td)]) (fun R' hn hr => ?_) ?_
    · refine ⟨_, comp_map vd (fun v => some (.dat (vd (v.map (st t))), true)) p ?_, _, mkListC_map (fun v => vd (v.map (st t))) p, ?_⟩
      · intro v hv R hR
        refine ⟨_, rfl, ?_⟩
        refine And.intro (fun _ => ?_) (fun h => Bool.noConfusion h)
        refine ⟨_, comp_map nd (fun m => some (.dat (nd (st t m)), true)) v ?_, _, mkListC_map (fun m => nd (st t m)) v, ?_⟩
        · intro m hm R hR
          refine ⟨_, rfl, ?_⟩
          refine And.intro (fun _ => ?_) (fun h => Bool.noConfusion h)
          refine ⟨_, rfl, ?_⟩
          refine ⟨mulOk_right (by omega), ?_⟩
          refine ⟨_, rfl, ?_⟩
          refine ⟨mulOk_right (by omega), ?_⟩
          refine ⟨_, rfl, ?_⟩
          refine ⟨_, rfl, ?_⟩
          exact hR
        rw [vd_map] at hR
        exact hR
      exact hn _ ⟨_, fresh_not, by rw [stP, pd_map]; rfl⟩
    rintro _ ⟨td, htd, rfl⟩
    refine law_same_ok _ _ ?_
    refine ⟨shaped_pd p, shaped_pd p, true, by rw [eqv_pd]; simp, ?_⟩
    have hq := pSt hp t (by omega) hgood
    have hql : ∀ v ∈ stP t p, v.length ≤ 63 := fun v hv => by
      unfold stP at hv
      obtain ⟨u, hu, rfl⟩ := List.mem_map.mp hv
      rw [List.length_map]; exact hps u hu
    refine seq_inv (fun σ' => ∃ (q : List (List Note)) (s : Slot), OkPiece q ∧ s.v = .dat (pd q) ∧ σ' = [sl "_law_script" (ids ns) [0] none, sl "_law_piece_here" (pd p) [1] (some 1), sl "_law_handed" (pd p) [2] (some 2), si "_law_end" E, si "_law_number" nu, si "_law_times" t, sl "_law_told" (pd (stP t p)) [tt] (some tt), sl "_law_due" (pd (stP t p)) [td] (some td), ("_law_bent_here", s)]) (fun R' hn hr => ?_) ?_
    · refine law_at _ ns 1 (by decide) ?_
      refine ⟨by decide, by decide, ?_⟩
      refine law_bent _ _ _ hq hql fun q hq fl => ?_
      exact hn _ ⟨q, _, hq, slotOf_v _ _ _, rfl⟩
    rintro _ ⟨q, ⟨qv, qr, qt⟩, hqo, e, rfl⟩
    cases e
    refine seq_inv (fun σ' => ∃ kr kt, σ' = [sl "_law_script" (ids ns) [0] none, sl "_law_piece_here" (pd p) [1] (some 1), sl "_law_handed" (pd p) [2] (some 2), si "_law_end" E, si "_law_number" nu, si "_law_times" t, sl "_law_told" (pd (stP t p)) [tt] (some tt), sl "_law_due" (pd (stP t p)) [td] (some td), sl "_law_bent_here" (pd q) qr qt, sl "_law_kept" (pd q) kr kt]) (fun R' hn hr => ?_) ?_
    · refine ⟨_, comp_map vd (fun v => some (.dat (vd v), true)) q ?_, _, mkListC_map vd q, ?_⟩
      · intro v hv R hR
        refine ⟨_, rfl, ?_⟩
        refine And.intro (fun _ => ?_) (fun h => Bool.noConfusion h)
        refine ⟨_, list_vd v false, ?_⟩
        exact hR
      exact hn _ ⟨_, _, rfl⟩
    rintro _ ⟨kr, kt, rfl⟩
    refine seq_inv (fun σ' => σ' = [sl "_law_script" (ids ns) [0] none, sl "_law_piece_here" (pd p) [1] (some 1), sl "_law_handed" (pd p) [2] (some 2), si "_law_end" E, si "_law_number" nu, si "_law_times" t, sl "_law_told" (pd (stP t p)) [tt] (some tt), sl "_law_due" (pd (stP t p)) [td] (some td), sl "_law_bent_here" (pd q) qr qt, sl "_law_kept" (pd q) kr kt]) (fun R' hn hr => ?_) ?_
    · refine law_at _ ns 1 (by decide) ?_
      refine ⟨by decide, ?_⟩
      refine And.intro (fun _ => ?_) (fun _ => hn _ rfl)
      refine law_uneven _ _ _ ht1 ?_
      by_cases ho : ∃ v ∈ q, ∃ m ∈ v, Odd t m
      · rw [decide_eq_true ho]
        refine tried1_odd _ _ _ hqo ht1 ht2 ho ?_
        refine ⟨by decide +kernel, by decide +kernel, true, by decide +kernel, ?_⟩
        refine ⟨shaped_pd q, shaped_pd q, true, by rw [eqv_pd]; simp, ?_⟩
        exact hr _ _ rfl
      · rw [decide_eq_false ho]
        exact hn _ rfl
    rintro _ rfl
    refine seq_inv (fun σ' => ∃ tb, tb ≠ 0 ∧ tb ∉ regsOf [sl "_law_script" (ids ns) [0] none, sl "_law_piece_here" (pd p) [1] (some 1), sl "_law_handed" (pd p) [2] (some 2), si "_law_end" E, si "_law_number" nu, si "_law_times" t, sl "_law_told" (pd (stP t p)) [tt] (some tt), sl "_law_due" (pd (stP t p)) [td] (some td), sl "_law_bent_here" (pd q) qr qt, sl "_law_kept" (pd q) kr kt] ∧ σ' = [sl "_law_script" (ids ns) [0] none, sl "_law_piece_here" (pd p) [1] (some 1), sl "_law_handed" (pd p) [2] (some 2), si "_law_end" E, si "_law_number" nu, si "_law_times" t, sl "_law_told" (pd (stP t p)) [tt] (some tt), sl "_law_due" (pd (stP t p)) [td] (some td), sl "_law_bent_here" (pd q) qr qt, sl "_law_kept" (pd q) kr kt, sl "_law_again" (pd p) [tb] (some tb)]) (fun R' hn hr => ?_) ?_
    · refine tried1_ok _ _ _ hq ht1 ht2 (st_even t p) (by rw [skP_stP t (by omega)]; exact pNotes hp) ?_
      rw [skP_stP t (by omega)]
      exact hn _ ⟨_, fresh_pos, fresh_not, rfl⟩
    rintro _ ⟨tb, tb0, htb, rfl⟩
    refine law_same_ok _ _ ?_
    have e2 : regsOf [sl "_law_script" (ids ns) [0] none, sl "_law_piece_here" (pd p) [1] (some 1), sl "_law_handed" (pd p) [2] (some 2), si "_law_end" E, si "_law_number" nu, si "_law_times" t] = 0 :: 1 :: 2 :: [] := rfl
    have e1 : regsOf [sl "_law_script" (ids ns) [0] none, sl "_law_piece_here" (pd p) [1] (some 1), sl "_law_handed" (pd p) [2] (some 2), si "_law_end" E, si "_law_number" nu, si "_law_times" t, sl "_law_told" (pd (stP t p)) [tt] (some tt)] = 0 :: 1 :: 2 :: [tt] := rfl
    have e3 : regsOf [sl "_law_script" (ids ns) [0] none, sl "_law_piece_here" (pd p) [1] (some 1), sl "_law_handed" (pd p) [2] (some 2), si "_law_end" E, si "_law_number" nu, si "_law_times" t, sl "_law_told" (pd (stP t p)) [tt] (some tt), sl "_law_due" (pd (stP t p)) [td] (some td), sl "_law_bent_here" (pd q) qr qt, sl "_law_kept" (pd q) kr kt] = 0 :: 1 :: 2 :: tt :: td :: (qr ++ (kr ++ [])) := rfl
    rw [e2] at htt
    rw [e1] at htd
    rw [e3] at htb
    simp only [List.mem_cons, List.mem_append, List.not_mem_nil, or_false, not_or] at htd htt htb
    refine Ends.mk (p.map vd) ((stP t p).map vd) (pd (stP t p)) [tb] [tt] [td] _ _ _ rfl rfl rfl ?_ ?_ [("_law_handed", .dat (pd p)), ("_law_piece_here", .dat (pd p))] ?_ ?_
    · refine OwnFn.mk _ _ _ _ _ _ _ _ _ _ _ _ _ _ _ _ _ _ _ _ _ _ _ _ _ _ rfl rfl rfl rfl (by decide) ?_ ?_ ?_ (by decide) (by decide) ?_ ?_
      · exact ⟨_, rfl, trivial⟩
      · exact ⟨_, rfl, trivial⟩
      · exact ⟨shaped_pd _, shaped_pd _, true, by show PyData.eqv (pd _) (pd _) = true; rw [eqv_pd]; simp, rfl⟩
      · intro r hr; cases List.mem_singleton.mp hr; simp only [List.mem_singleton]; omega
      · intro r hr; cases List.mem_singleton.mp hr; simp only [List.mem_singleton]; omega
    · refine ⟨?_, ?_, ?_, ?_⟩
      · intro r hr; cases List.mem_singleton.mp hr; exact tb0
      · intro r hr; cases List.mem_singleton.mp hr; exact tt0
      · intro d hd
        obtain ⟨v, hv, rfl⟩ := List.mem_map.mp hd
        have := hps v hv
        have := hp.hi
        exact ⟨_, rfl, by simp only [List.length_map]; omega⟩
      · intro d hd
        obtain ⟨v, hv, rfl⟩ := List.mem_map.mp hd
        have := hql v hv
        have := hq.hi
        exact ⟨_, rfl, by simp only [List.length_map] at *; omega⟩
    · refine RhoIn.cons (sl := ⟨.dat (pd p), [2], some 2⟩) rfl ?_ (RhoIn.cons (sl := ⟨.dat (pd p), [1], some 1⟩) rfl ?_ RhoIn.nil)
      · intro q hq; cases List.mem_singleton.mp hq; simp only [List.mem_append, List.mem_singleton]; omega
      · intro q hq; cases List.mem_singleton.mp hq; simp only [List.mem_append, List.mem_singleton]; omega
    · exact ⟨shaped_pd p, shaped_pd p, true, by rw [eqv_pd]; simp, rfl⟩

theorem e1 : G.fns.lookup ("law" : Str) = some fnLaw := rfl
theorem e2 : G.fns.lookup ("_law_own" : Str) = some fnOwn := rfl
theorem e3 : fnLaw.params = [("_law_script" : Str)] := rfl
theorem e4 : ∃ pf pa pb pc pcl pbo pos, fnLaw.body = fnLaw.body.dropLast ++ [.Return (some (.BoolOp .And [.Call (.Name "_law_own" pf) [.Name "_law_again" pa, .Name "_law_told" pb, .Name "_law_due" pc] [] pcl, andE fnLaw.body] pbo)) pos] := ⟨_, _, _, _, _, _, _, rfl⟩
theorem e5 : (glob fnLaw.names "_law_own" && (okNm "_law_own" && okNm "_law_again" && okNm "_law_told" && okNm "_law_due")) = true := by decide +kernel

end L04
end Mine
end

open PySem PySem.W PyProof.Rows
namespace Mine.Head
open PySem.Challenge
set_option maxRecDepth 100000
theorem said : rw_uf020036_04.wellSaid = true := by kernel_rfl
theorem left : LeftO pw_uf020036_04 pw_uf020036_04 [] (fun s => xlAt pw_uf020036_04 [] s && recOk (RowW.records rw_uf020036_04.row.toRowW) s) (Mine.hook pw_uf020036_04.main.body).obs (Mine.hook pw_uf020036_04.main.body).val 5000 := by
  intro w; kernel_rfl
theorem fns : Mine.fnsOf pw_uf020036_04.main.body = (recsOf pw_uf020036_04).map Mine.toFn := by kernel_rfl
theorem recs : (recsOf pw_uf020036_04).all Mine.okRec = true := by kernel_rfl
theorem names : Mine.okNames pw_uf020036_04 (looseW pw_uf020036_04 []) = true := by kernel_rfl
theorem consts : Mine.okConsts pw_uf020036_04 (Mine.constsOf pw_uf020036_04.main.body) = true := by kernel_rfl
end Mine.Head
set_option maxRecDepth 100000 in
set_option maxHeartbeats 8000000 in
theorem PySem.Challenge.cw_uf020036_04_holds : PySem.Challenge.rw_uf020036_04.Holds := by
  refine holds_law Mine.Head.said fun said => ?_
  refine W.holds_open (q := Challenge.pw_uf020036_04) (loose := []) (Xt := fun s => xlAt Challenge.pw_uf020036_04 [] s && recOk (RowW.records Challenge.rw_uf020036_04.row.toRowW) s) (XP := XL Challenge.pw_uf020036_04 []) (YP := (Mine.hook Challenge.pw_uf020036_04.main.body).says) Mine.Head.left (Mine.hook Challenge.pw_uf020036_04.main.body).of (Mine.hook Challenge.pw_uf020036_04.main.body).keeps (fun s e => xl_of s (Bool.and_eq_true_iff.mp e).1) XL.keeps (by rfl) (by rfl) (by rfl) (fun s e => recFacts_of (Bool.and_eq_true_iff.mp e).2) (by rfl) said (by decide +kernel) ⟨rfl, rfl, rfl, rfl, rfl, by decide +kernel⟩ ?hw ?hc
  case hw => w_witness2
  case hc =>
  intro w s₀ s₁ mg mb G Y fa o pm cd doc dV kV ho hd hcd hD hmg hg args vals as hpre hlay hrd hwl hlo
  obtain ⟨K, hK, KX⟩ := Y
  refine Ground.open G ?_
  intro T B D TE TW
  clear hd hcd hD ho
  wrow_args hpre hlay hrd hwl hlo
  rename_i ns _ _ _ _ _ _ _ sc vals _ hIsL _ w1 _ hI _ hlen _
  obtain ⟨pf, pa, pb, pc, pcl, pbo, pos, hb⟩ := Mine.L04.e4
  exact Mine.law_runs2 (body := Challenge.pw_uf020036_04.main.body) T KX Mine.Head.fns Mine.Head.recs Mine.Head.names Mine.Head.consts hK hmg hI (Mine.well_list w1 hIsL) (by omega) Mine.L04.e1 Mine.L04.e2 Mine.L04.e3 hb Mine.L04.e5 (Mine.L04.law ns (by omega)) fun h' tk keep => Mine.good_true keep hg
