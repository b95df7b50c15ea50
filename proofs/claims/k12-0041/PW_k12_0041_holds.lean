import PyProof.Rows.All
import PyProof.P3Statements
import PyProof.StrBlock
import PyProof.StrBlock2
import PyProof.StrBlockL
import PyProof.SliceMore
import PyProof.Fits
import PyProof.StrCalls6
import PyProof.Cells
import PyProof.Comp
import PyProof.PlainList
import PyProof.IsRules
import PyProof.TupleIter
import PyProof.RangeIter
import PyProof.EnumMake
import PyProof.DelItemList
import PyProof.EqLayable
import PyProof.P3In
import PyProof.CodeObjX
import PyProof.Rows.IntRules
import PyProof.Rows.RuleB_mul
import PyProof.Rows.RuleB_mod
import PyProof.Rows.RuleB_floordiv
import PyProof.Rows.RuleB_pow
import PyProof.Rows.RuleB_rshift
import PyProof.Rows.RuleB_or
import PyProof.Rows.RuleC_int
import PyProof.Rows.RuleC_bool
import PyProof.Rows.RuleIs
import PyProof.Rows.StrRules
import PyProof.Rows.Catch
import PyProof.Rows.Nodes
import PyProof.Rows.RuleU_int
import PyProof.Rows.Tup
import PyProof.ListOps
import PyProof.NoPylong
import PyProof.Rows.StrTemp
import PyProof.Rows.StrOrd
import PyProof.CallFns
import PyProof.IsiPairs
import PyProof.IsiNone
import PyProof.IsiHeapPairs
import PyProof.Methods
import PyProof.ListIndexNeg
import PyProof.SliceStr2
import PyProof.StrCalls
import PyProof.StrCalls3
import PyProof.StrCalls2
import PyProof.ConsumeWalk
import PyProof.Rows.SortWalk
import PyProof.Rows.SeqMore
import PyProof.Rows.GenRows
import PyProof.CallRoads
import PyProof.StrCalls5
import PyProof.Rows.Exc
import PyProof.WalksMore
import PyProof.StrWalks
import PyProof.RangeFor
import PyProof.GenCompD
import PyProof.GenQ
import PyProof.ConsumeS
import PyProof.Rows.GenFrame
import PyProof.Rows.RowBridgeG
import PyProof.DictDisplay
import PyProof.DictKinds
import PyProof.DictRoads
import OpenK.Peek
import PyProof.StrLawsIn
import PyProof.StrLawsLast
import PyProof.Rows.StrCountLaw
import PyProof.P3Eq
import PyProof.TableCode
import Wide.All
import OpenK.AllK
import Wide.FinOn
import PySem.Challenge.RW_k12_0041

set_option Elab.async false
set_option linter.all false

section
namespace Mine
open PySem

/-- values of the small reading: lists are objects (ref), tuples (never changed) are values -/
inductive V where
  | none
  | bool (b : Bool)
  | int (i : Int)
  | str (s : Str)
  | tup (vs : List V)
  | ref (a : Nat)

abbrev Hp := List (List V)
abbrev Rho := Str → Option V
abbrev Kap := Str → Option NameKind

/-- the code objects of the text's functions, each with its list of inner codes (a generator expression's first run adds to that list) -/
noncomputable def CPs : List (Addr × Addr) := [(18, 16), (25, 21), (32, 28), (37, 35), (44, 40), (51, 47), (58, 54), (65, 61), (72, 68), (80, 76), (87, 83), (92, 90), (97, 95), (102, 100), (109, 105), (114, 112)]
theorem CPs_ne : ∀ p ∈ CPs, ∀ q ∈ CPs, p.1 ≠ q.2 := by unfold CPs; decide +kernel
theorem CPs_inj : ∀ p ∈ CPs, ∀ q ∈ CPs, p.2 = q.2 → p = q := by unfold CPs; decide +kernel

inductive Fl where
  | next | brk | cont
  | ret (v : V)

structure Glob where
  val : Str → Option V
  isFn : Str → Bool
  fn : Str → List V → Hp → Option (V × Hp)
  /-- functions without arguments that return a written dict, by its pairs -/
  dct : Str → Option (List (Str × V))

/-! reading a value as plain data -/
noncomputable def rdAll (f : V → Option PyData) : List V → Option (List PyData)
  | [] => some []
  | v :: vs => (f v).bind fun d => (rdAll f vs).map (d :: ·)
noncomputable def rdF (f : List V → Option (List PyData)) (h : Hp) : V → Option PyData
  | .none => some .none
  | .bool b => some (.bool b)
  | .int i => some (.int i)
  | .str s => if s.cps.all (· < 0x110000) then some (.str s) else none
  | .tup vs => (f vs).map .tuple
  | .ref a => (h[a]?).bind fun vs => (f vs).map .list
noncomputable def rd : Nat → Hp → V → Option PyData
  | 0, h => rdF (fun _ => none) h
  | n + 1, h => rdF (rdAll (rd n h)) h

noncomputable def cval : Const → Option V
  | .none => some .none
  | .bool b => some (.bool b)
  | .int i => some (.int i)
  | .str s => if s.length ≤ sizeLine then some (.str s) else none
  | _ => none

noncomputable def nameV (g : Glob) (κ : Kap) (ρ : Rho) (x : Str) : Option V :=
  if x = "__debug__" ∨ x = "__classdict__" then none else
  match κ x with
  | some .local | some .cell | some .free => ρ x
  | some .globalImplicit => g.val x
  | _ => none

noncomputable def truthV : V → Option Bool
  | .bool b => some b
  | _ => none

noncomputable def int2 {α : Type} (f : Int → Int → Option α) (x y : V) : Option α :=
  match x with
  | .int a => (match y with | .int b => f a b | _ => none)
  | _ => none
noncomputable def ref2 {α : Type} (f : Nat → Nat → Option α) (x y : V) : Option α :=
  match x with
  | .ref a => (match y with | .ref b => f a b | _ => none)
  | _ => none
noncomputable def addV (x y : V) (h : Hp) : Option (V × Hp) :=
  match x with
  | .ref _ => ref2 (fun a b => (h[a]?).bind fun xs => (h[b]?).bind fun ys => if xs.length + ys.length ≤ sizeLine then some (.ref h.length, h ++ [xs ++ ys]) else none) x y
  | _ => int2 (fun a b => some (.int (a + b), h)) x y
noncomputable def binop (op : Operator) (x y : V) (h : Hp) : Option (V × Hp) :=
  match op with
  | .Add => addV x y h
  | .Sub => int2 (fun a b => some (.int (a - b), h)) x y
  | .Mult => int2 (fun a b => if Builtin.Int.intBits a ≤ 64 then some (.int (a * b), h) else none) x y
  | .Mod => int2 (fun a b => if b = 0 then none else some (.int (a.fmod b), h)) x y
  | .FloorDiv => int2 (fun a b => if b ≠ 0 ∧ b.natAbs < 1073741824 then some (.int (a.fdiv b), h) else none) x y
  | _ => none

noncomputable def unop (op : UnaryOp) (x : V) : Option V :=
  match op with
  | .USub => (match x with | .int a => some (.int (-a)) | _ => none)
  | .Not => (match x with | .bool b => some (.bool (!b)) | _ => none)
  | _ => none

noncomputable def eqR (h : Hp) (x y : V) : Option Bool := (rd 8 h x).bind fun d => (rd 8 h y).map fun e => PyData.eqv d e
noncomputable def eqV (h : Hp) (x y : V) : Option Bool :=
  match x with
  | .int a => (match y with | .int b => some (a == b) | _ => eqR h x y)
  | .str a => (match y with | .str b => some (a == b) | _ => eqR h x y)
  | .bool a => (match y with | .bool b => some (a == b) | _ => eqR h x y)
  | _ => eqR h x y

noncomputable def inV (h : Hp) (x c : V) : Option Bool :=
  match c with
  | .str s => match x with | .str y => some (Txt.contains s y) | _ => none
  | .tup vs => (rd 8 h x).bind fun d => (rdAll (rd 8 h) vs).map fun ds => ds.any fun y => PyData.eqv y d
  | .ref a => (h[a]?).bind fun vs => (rd 8 h x).bind fun d => (rdAll (rd 8 h) vs).map fun ds => ds.any fun y => PyData.eqv y d
  | _ => none

noncomputable def bool2 (f : Bool → Bool → Bool) (x y : V) : Option Bool :=
  match x with
  | .bool a => (match y with | .bool b => some (f a b) | _ => none)
  | _ => none
noncomputable def cmpop (op : CmpOp) (x y : V) (h : Hp) : Option Bool :=
  match op with
  | .Eq => eqV h x y
  | .NotEq => (eqV h x y).map (!·)
  | .Lt => int2 (fun a b => some (decide (a < b))) x y
  | .LtE => int2 (fun a b => some (decide (a ≤ b))) x y
  | .Gt => int2 (fun a b => some (decide (b < a))) x y
  | .GtE => int2 (fun a b => some (decide (b ≤ a))) x y
  | .Is => bool2 (· == ·) x y
  | .IsNot => bool2 (· != ·) x y
  | .In => inV h x y
  | .NotIn => (inV h x y).map (!·)

noncomputable def intsOf : List V → Option (List Int)
  | [] => some []
  | .int i :: r => (intsOf r).map (i :: ·)
  | _ => none
noncomputable def boolsOf : List V → Option (List Bool)
  | [] => some []
  | .bool i :: r => (boolsOf r).map (i :: ·)
  | _ => none
noncomputable def strsOf : List V → Option (List Str)
  | [] => some []
  | .str i :: r => (strsOf r).map (i :: ·)
  | _ => none

noncomputable def insertI (x : Int) : List Int → List Int
  | [] => [x]
  | y :: r => if x < y then x :: y :: r else y :: insertI x r
noncomputable def sortI : List Int → List Int
  | [] => []
  | x :: r => insertI x (sortI r)

noncomputable def refV {α : Type} (f : Nat → Option α) : V → Option α
  | .ref a => f a
  | _ => none
noncomputable def one {β α : Type} (f : β → Option α) : List β → Option α
  | [v] => f v
  | _ => none
noncomputable def lenV (h : Hp) : V → Option (V × Hp)
  | .str s => some (.int s.length, h)
  | .tup vs => some (.int vs.length, h)
  | .ref a => (h[a]?).map fun xs => (.int xs.length, h)
  | _ => none
noncomputable def sortedV (h : Hp) (a : Nat) : Option (V × Hp) := (h[a]?).bind fun xs => (intsOf xs).bind fun ns => if ns.length < 64 then some (.ref h.length, h ++ [(sortI ns).map .int]) else none
noncomputable def anyV (h : Hp) (a : Nat) : Option (V × Hp) := (h[a]?).bind fun xs => (boolsOf xs).map fun bs => (.bool (bs.any id), h)
/-- the built-in functions -/
noncomputable def callB (f : Str) (as : List V) (h : Hp) : Option (V × Hp) :=
  if f = "len" then one (lenV h) as else if f = "sorted" then one (refV (sortedV h)) as else if f = "any" then one (refV (anyV h)) as else none

noncomputable def appendV (b : Nat) (h : Hp) (a : Nat) (v : V) : Option (V × Hp) := (h[a]?).bind fun xs => if b ≤ a ∧ xs.length ≤ 1000000 then some (.none, h.set a (xs ++ [v])) else none
noncomputable def popV (b : Nat) (h : Hp) (a : Nat) : List V → Option (V × Hp)
  | [] => (h[a]?).bind fun xs => if b ≤ a then (xs.getLast?).map fun v => (v, h.set a xs.dropLast) else none
  | _ => none
noncomputable def joinV (h : Hp) (s : Str) (a : Nat) : Option (V × Hp) := (h[a]?).bind fun xs => (strsOf xs).bind fun ss => if JoinOk s ss then some (.str (Txt.join s ss), h) else none
/-- methods -/
noncomputable def callM (b : Nat) (m : Str) (o : V) (as : List V) (h : Hp) : Option (V × Hp) :=
  match o with
  | .ref a => if m = "append" then one (appendV b h a) as else if m = "pop" then popV b h a as else none
  | .str s => if m = "join" then one (refV (joinV h s)) as else none
  | _ => none

noncomputable def idx (o i : V) (h : Hp) : Option V :=
  match i with
  | .int k => (match o with
    | .str s => ((seqIndex? k s.length).bind (s.cps[·]?)).map fun c => .str ⟨#[c]⟩
    | .tup vs => (seqIndex? k vs.length).bind (vs[·]?)
    | .ref a => (h[a]?).bind fun vs => (seqIndex? k vs.length).bind (vs[·]?)
    | _ => none)
  | _ => none

noncomputable def partV : V → Option (Option Int)
  | .none => some none
  | .int i => some (some i)
  | _ => none

noncomputable def cutL {α : Type} (xs : List α) (lo hi : Option Int) : List α :=
  (xs.drop (lo.elim 0 (clipAt xs.length))).take (hi.elim xs.length (clipAt xs.length) - lo.elim 0 (clipAt xs.length))

noncomputable def slice (o l u st : V) (h : Hp) : Option (V × Hp) :=
  (partV l).bind fun lo => (partV u).bind fun hi =>
  match st with
  | .none => (match o with
    | .ref a => (h[a]?).bind fun xs => some (.ref h.length, h ++ [cutL xs lo hi])
    | .str s => some (.str ⟨(cutL s.cps.toList lo hi).toArray⟩, h)
    | _ => none)
  | _ => none

abbrev Rec := Expr → Kap → Rho → Hp → Option (V × Hp)
abbrev RecT := Expr → Kap → Rho → Hp → Option (Bool × Hp)

noncomputable def notStar (e : Expr) : Bool := e.ctorIdx != 22
noncomputable def notSet (e : Expr) : Bool := e.ctorIdx != 7

noncomputable def evs (rec : Rec) (κ : Kap) (ρ : Rho) : List Expr → Hp → Option (List V × Hp)
  | [], h => some ([], h)
  | e :: r, h => if notStar e then (rec e κ ρ h).bind fun p => (evs rec κ ρ r p.2).map fun q => (p.1 :: q.1, q.2) else none

noncomputable def evBool (rec : Rec) (op : BoolOp) (κ : Kap) (ρ : Rho) : List Expr → Hp → Option (V × Hp)
  | [], _ => none
  | [e], h => rec e κ ρ h
  | e :: r, h => (rec e κ ρ h).bind fun p => (truthV p.1).bind fun t =>
    match op, t with
    | .And, false | .Or, true => some p
    | _, _ => evBool rec op κ ρ r p.2

noncomputable def cmpChain (rec : Rec) (κ : Kap) (ρ : Rho) : V → List CmpOp → List Expr → Hp → Option (Bool × Hp)
  | x, [op], [e], h => if notSet e then (rec e κ ρ h).bind fun p => (cmpop op x p.1 p.2).map (·, p.2) else none
  | _, _, _, _ => none

noncomputable def evOpt (rec : Rec) (κ : Kap) (ρ : Rho) : Option Expr → Hp → Option (V × Hp)
  | none, h => some (.none, h)
  | some e, h => rec e κ ρ h

/-- what a for goes over: its items, and the look that the list is as it was -/
noncomputable def itemsOf (v : V) (h : Hp) : Option (List V × Option Nat) :=
  match v with
  | .str s => some (s.cps.toList.map fun c => .str ⟨#[c]⟩, none)
  | .tup vs => some (vs, none)
  | .ref a => (h[a]?).map fun xs => (xs, some a)
  | _ => none

noncomputable def rangeV (lo hi : Int) : List V := (List.range (hi - lo).toNat).map fun i : Nat => .int (lo + i)

noncomputable def isGlobalB (g : Glob) (κ : Kap) (f : Str) : Bool := κ f == some .globalImplicit && (g.val f).isNone && !g.isFn f

noncomputable def rangeArgs : List V → Option (Int × Int)
  | [.int n] => if n.natAbs ≤ 2 ^ 40 then some (0, n) else none
  | [.int m, .int n] => if m.natAbs ≤ 2 ^ 40 ∧ n.natAbs ≤ 2 ^ 40 then some (m, n) else none
  | _ => none

noncomputable def rangeCall : Expr → Option (Str × List Expr)
  | .Call (.Name f _) args [] _ => if f = "range" then some (f, args) else none
  | _ => none

noncomputable def evIter (g : Glob) (rec : Rec) (κ : Kap) (ρ : Rho) (e : Expr) (h : Hp) : Option ((List V × Option Nat) × Hp) :=
  if notSet e then
    (rangeCall e).elim ((rec e κ ρ h).bind fun p => (itemsOf p.1 p.2).map (·, p.2)) fun fa =>
      if isGlobalB g κ fa.1 then (evs rec κ ρ fa.2 h).bind fun q => (rangeArgs q.1).map fun r => ((rangeV r.1 r.2, none), q.2) else none
  else none

noncomputable def chk (c : Option Nat) (items : List V) (h : Hp) : Bool :=
  match c with
  | none => true
  | some a => @decide (h[a]? = some items) (Classical.propDecidable _)

noncomputable def loopL (c : Option Nat) (all : List V) (f : V → Hp → Option Hp) : List V → Hp → Option Hp
  | [], h => if chk c all h then some h else none
  | x :: xs, h => if chk c all h then (f x h).bind (loopL c all f xs) else none

noncomputable def loopS (c : Option Nat) (all : List V) (f : V → Rho → Hp → Option (Fl × Rho × Hp)) : List V → Rho → Hp → Option (Fl × Rho × Hp)
  | [], ρ, h => if chk c all h then some (.next, ρ, h) else none
  | x :: xs, ρ, h => if chk c all h then (f x ρ h).bind fun q => match q.1 with
      | .next | .cont => loopS c all f xs q.2.1 q.2.2
      | .brk => some (.next, q.2)
      | .ret v => some (.ret v, q.2) else none

noncomputable def upd (ρ : Rho) (x : Str) (v : V) : Rho := fun y => if y = x then some v else ρ y

/-- a for's target: a name, or a tuple of names -/
noncomputable def nameOf : Expr → Option Str
  | .Name x _ => some x
  | _ => none
noncomputable def bindNames (ω : Str → Bool) : List Expr → List V → Rho → Option Rho
  | [], [], ρ => some ρ
  | t :: r, v :: vs, ρ => (nameOf t).bind fun x => if ω x then bindNames ω r vs (upd ρ x v) else none
  | _, _, _ => none
noncomputable def bindT (ω : Str → Bool) (t : Expr) (v : V) (ρ : Rho) : Option Rho :=
  match t with
  | .Name x _ => if ω x then some (upd ρ x v) else none
  | .Tuple ts _ _ => match v with | .tup vs => bindNames ω ts vs ρ | _ => none
  | _ => none

noncomputable def tsts (recT : RecT) (κ : Kap) (ρ : Rho) : List Expr → Hp → Option (Bool × Hp)
  | [], h => some (true, h)
  | e :: r, h => (recT e κ ρ h).bind fun p => if p.1 then tsts recT κ ρ r p.2 else some (false, p.2)

noncomputable def ownName (scope : Scope) (x : Str) : Bool := scope.names.lookup x == some .local || scope.names.lookup x == some .cell

/-- the kinds inside a comprehension -/
noncomputable def compKap (scope : Scope) (κ : Kap) : Kap := fun x => match scope.names.lookup x with
  | some .free => if κ x == some .cell then some .cell else some .free
  | k => k

/-- free names of the scope are cells around -/
noncomputable def freeOk (scope : Scope) (κ : Kap) : Bool := scope.kind == .function && scope.names.all fun p => scope.names.lookup p.1 == some p.2 && (p.2 != .free || (κ p.1 == some .cell || κ p.1 == some .free))

noncomputable def appendTo (acc : Nat) (v : V) (h : Hp) : Option Hp :=
  (h[acc]?).bind fun xs => if xs.length ≤ 1000000 then some (h.set acc (xs ++ [v])) else none

/-- a comprehension's target is not bound around it -/
noncomputable def freshT (t : Expr) (ρ : Rho) : Bool :=
  match t with
  | .Name x _ => (ρ x).isNone
  | _ => false

noncomputable def cgo (g : Glob) (rec : Rec) (recT : RecT) (ω : Str → Bool) (elt : Expr) (acc : Nat) (κ : Kap) : List Comprehension → Rho → Hp → Option Hp
  | [], ρ, h => (rec elt κ ρ h).bind fun p => appendTo acc p.1 p.2
  | g1 :: rest, ρ, h =>
    if g1.is_async = 0 ∧ freshT g1.target ρ = true then
    (evIter g rec κ ρ g1.iter h).bind fun q => loopL q.1.2 q.1.1 (fun x h => (bindT ω g1.target x ρ).bind fun ρ' =>
      (tsts recT κ ρ' g1.ifs h).bind fun p => if p.1 then cgo g rec recT ω elt acc κ rest ρ' p.2 else some p.2) q.1.1 q.2
    else none

noncomputable def evComp (g : Glob) (rec : Rec) (recT : RecT) (elt : Expr) (gens : List Comprehension) (scope : Scope) (κ : Kap) (ρ : Rho) (h : Hp) : Option (V × Hp) :=
  match gens with
  | [] => none
  | g1 :: rest =>
    if g1.is_async = 0 ∧ freeOk scope κ = true ∧ freshT g1.target (fun y => if ownName scope y then none else ρ y) = true then
    (evIter g rec κ ρ g1.iter h).bind fun q =>
      (loopL q.1.2 q.1.1 (fun x h => (bindT (ownName scope) g1.target x (fun y => if ownName scope y then none else ρ y)).bind fun ρ' =>
        (tsts recT (compKap scope κ) ρ' g1.ifs h).bind fun p => if p.1 then cgo g rec recT (ownName scope) elt q.2.length (compKap scope κ) rest ρ' p.2 else some p.2)
        q.1.1 (q.2 ++ [[]])).map fun h' => (.ref q.2.length, h')
    else none

noncomputable def okBase : Expr → Bool
  | .Call (.Name _ _) [] [] _ => false
  | _ => true

/-- a call without arguments, by its name -/
noncomputable def bareCall : Expr → Option Str
  | .Call (.Name f _) [] [] _ => some f
  | _ => none
noncomputable def dctLk (es : List (Str × V)) (q : V) : Option V := match q with | .str k => es.lookup k | _ => none
noncomputable def dctOf (g : Glob) (κ : Kap) (v : Expr) : Option (List (Str × V)) := (bareCall v).bind fun f => if κ f = some .globalImplicit ∧ f ≠ "__debug__" then g.dct f else none
noncomputable def sliceOf : Expr → Option (Option Expr × Option Expr × Option Expr)
  | .Slice l u st _ => some (l, u, st)
  | _ => none
noncomputable def evF (g : Glob) (b : Nat) (rec : Rec) (recT : RecT) (e : Expr) (κ : Kap) (ρ : Rho) (h : Hp) : Option (V × Hp) :=
  match e with
  | .Constant c _ _ => (cval c).map (·, h)
  | .Name x _ => (nameV g κ ρ x).map (·, h)
  | .BoolOp op vs _ => evBool rec op κ ρ vs h
  | .BinOp l op r _ => (rec l κ ρ h).bind fun p => (rec r κ ρ p.2).bind fun q => binop op p.1 q.1 q.2
  | .UnaryOp op x _ => (rec x κ ρ h).bind fun p => (unop op p.1).map (·, p.2)
  | .Compare l ops cs _ => (rec l κ ρ h).bind fun p => (cmpChain rec κ ρ p.1 ops cs p.2).map fun q => (.bool q.1, q.2)
  | .Call f args kws pos => match kws with
    | [] => (match f with
      | .Attribute o m ap => if okBase o ∧ ap.endLine = pos.line ∧ args.length < 30 then
          (rec o κ ρ h).bind fun p => (evs rec κ ρ args p.2).bind fun q => callM b m p.1 q.1 q.2 else none
      | .Name f _ => if κ f = some .globalImplicit ∧ f ≠ "__debug__" ∧ args.length < 30 then
          (if g.isFn f then (if g.val f = none then (evs rec κ ρ args h).bind fun q => g.fn f q.1 q.2 else none)
          else if isGlobalB g κ f then (evs rec κ ρ args h).bind fun q => callB f q.1 q.2 else none) else none
      | _ => none)
    | _ => none
  | .Subscript v i _ => (sliceOf i).elim ((dctOf g κ v).elim ((rec v κ ρ h).bind fun p => (rec i κ ρ p.2).bind fun q => (idx p.1 q.1 q.2).map (·, q.2)) fun es =>
      (rec i κ ρ h).bind fun q => (dctLk es q.1).map (·, q.2)) fun x =>
      (rec v κ ρ h).bind fun p => (evOpt rec κ ρ x.1 p.2).bind fun q => (evOpt rec κ ρ x.2.1 q.2).bind fun r => (evOpt rec κ ρ x.2.2 r.2).bind fun t => slice p.1 q.1 r.1 t.1 t.2
  | .List es _ => (evs rec κ ρ es h).bind fun q => if q.1.length ≤ sizeLine then some (.ref q.2.length, q.2 ++ [q.1]) else none
  | .Tuple es _ _ => (evs rec κ ρ es h).bind fun q => if q.1.length ≤ sizeLine then some (.tup q.1, q.2) else none
  | .ListComp elt gens scope _ => evComp g rec recT elt gens scope κ ρ h
  | _ => none

noncomputable def tstAll (recT : RecT) (op : BoolOp) (κ : Kap) (ρ : Rho) : List Expr → Hp → Option (Bool × Hp)
  | [], h => some (op == .And, h)
  | e :: r, h => (recT e κ ρ h).bind fun p =>
    match op, p.1 with
    | .And, false => some (false, p.2)
    | .Or, true => some (true, p.2)
    | _, _ => tstAll recT op κ ρ r p.2

noncomputable def isNotOp : UnaryOp → Bool
  | .Not => true
  | _ => false

/-- any over a generator expression -/
noncomputable def anyG (f : V → Option Bool) : List V → Option Bool
  | [] => some false
  | x :: xs => (f x).bind fun t => (anyG f xs).map (t || ·)
noncomputable def keepH (h h' : Hp) (v : V) : Option Bool := @ite _ (h' = h) (Classical.propDecidable _) (truthV v) none
noncomputable def genAny : Expr → Option (Expr × Comprehension × Scope × Str)
  | .Call (.Name f _) [.GeneratorExp elt [g1] scope _] [] _ => some (elt, g1, scope, f)
  | _ => none
noncomputable def genOk (scope : Scope) (κ : Kap) (g1 : Comprehension) (x : Str) : Bool :=
  decide (g1.is_async = 0) && g1.ifs.isEmpty && freeOk scope κ && !scope.isCoroutine && (scope.names.all fun p => p.2 != .cell) && scope.names.lookup (".0" : Str) == some .local && scope.names.lookup x == some .local && x != (".0" : Str)
noncomputable def evAny (g : Glob) (rec : Rec) (recQ : Nat → Rec) (elt : Expr) (g1 : Comprehension) (scope : Scope) (κ : Kap) (ρ : Rho) (h : Hp) : Option (Bool × Hp) :=
  (nameOf g1.target).bind fun x => if genOk scope κ g1 x then (rangeCall g1.iter).bind fun fa => if isGlobalB g κ fa.1 then (evs rec κ ρ fa.2 h).bind fun q => (rangeArgs q.1).bind fun r =>
    (anyG (fun v => (recQ q.2.length elt (fun y => scope.names.lookup y) (upd (fun y => if ownName scope y then none else ρ y) x v) q.2).bind fun p => keepH q.2 p.2 p.1) (rangeV r.1 r.2)).map (·, q.2) else none else none

noncomputable def tstP (g : Glob) (rec : Rec) (recQ : Option (Nat → Rec)) (e : Expr) (κ : Kap) (ρ : Rho) (h : Hp) : Option (Bool × Hp) :=
  (genAny e).elim ((rec e κ ρ h).bind fun p => (truthV p.1).map (·, p.2)) fun q => recQ.elim none fun rq => if q.2.2.2 = "any" ∧ isGlobalB g κ q.2.2.2 = true then evAny g rec rq q.1 q.2.1 q.2.2.1 κ ρ h else none
noncomputable def tstF (g : Glob) (rec : Rec) (recQ : Option (Nat → Rec)) (recT : RecT) (e : Expr) (κ : Kap) (ρ : Rho) (h : Hp) : Option (Bool × Hp) :=
  match e with
  | .UnaryOp op x _ => if isNotOp op then (recT x κ ρ h).map fun p => (!p.1, p.2) else none
  | .BoolOp op vs _ => tstAll recT op κ ρ vs h
  | .Compare l ops cs _ => (rec l κ ρ h).bind fun p => cmpChain rec κ ρ p.1 ops cs p.2
  | .IfExp .. => none
  | e => tstP g rec recQ e κ ρ h

noncomputable def evQ (g : Glob) (b : Nat) : Nat → Rec × RecT
  | 0 => (fun _ _ _ _ => none, fun _ _ _ _ => none)
  | n + 1 => (evF g b (evQ g b n).1 (evQ g b n).2, tstF g (evQ g b n).1 none (evQ g b n).2)
noncomputable def quietG (g : Glob) : Glob := ⟨g.val, fun _ => false, fun _ _ _ => none, fun _ => none⟩
noncomputable def evT (g : Glob) (b : Nat) : Nat → Rec × RecT
  | 0 => (fun _ _ _ _ => none, fun _ _ _ _ => none)
  | n + 1 => (evF g b (evT g b n).1 (evT g b n).2, tstF g (evT g b n).1 (some fun b' => (evQ (quietG g) b' n).1) (evT g b n).2)

abbrev RecS := Stmt → Rho → Hp → Option (Fl × Rho × Hp)
noncomputable def exs (recS : RecS) : List Stmt → Rho → Hp → Option (Fl × Rho × Hp)
  | [], ρ, h => some (.next, ρ, h)
  | s :: r, ρ, h => (recS s ρ h).bind fun q => match q.1 with
    | .next => exs recS r q.2.1 q.2.2
    | _ => some q

noncomputable def refInt {α : Type} (f : Nat → Int → Option α) (o i : V) : Option α :=
  match o with
  | .ref a => (match i with | .int k => f a k | _ => none)
  | _ => none
noncomputable def setIdx (b : Nat) (o i v : V) (h : Hp) : Option Hp :=
  refInt (fun a k => (h[a]?).bind fun xs => (seqIndex? k xs.length).bind fun j => if b ≤ a then some (h.set a (xs.set j v)) else none) o i
noncomputable def delIdx (b : Nat) (o i : V) (h : Hp) : Option Hp :=
  refInt (fun a k => (h[a]?).bind fun xs => (seqIndex? k xs.length).bind fun j => if b ≤ a then some (h.set a (xs.eraseIdx j)) else none) o i

noncomputable def notSlice (e : Expr) : Bool := e.ctorIdx != 26
noncomputable def isNoneV : V → Bool
  | .none => true
  | _ => false
noncomputable def notComp (e : Expr) : Bool := !(8 ≤ e.ctorIdx && e.ctorIdx ≤ 10)

noncomputable def exF (g : Glob) (b : Nat) (ω : Str → Bool) (κ : Kap) (rec : Rec) (recT : RecT) (recS : RecS) (st : Stmt) (ρ : Rho) (h : Hp) : Option (Fl × Rho × Hp) :=
  match st with
  | .Expr e _ => if notComp e then (rec e κ ρ h).bind fun p => if isNoneV p.1 then some (.next, ρ, p.2) else none else none
  | .Break _ => some (.brk, ρ, h)
  | .Continue _ => some (.cont, ρ, h)
  | .Return (some e) _ => (rec e κ ρ h).map fun p => (.ret p.1, ρ, p.2)
  | .Assign ts e _ => one (fun t => match t with
    | .Name x _ => if ω x then (rec e κ ρ h).map fun p => (.next, upd ρ x p.1, p.2) else none
    | .Subscript o i _ => if notComp e && notSlice i then (rec e κ ρ h).bind fun p => (rec o κ ρ p.2).bind fun q => (rec i κ ρ q.2).bind fun r => (setIdx b q.1 r.1 p.1 r.2).map fun h' => (.next, ρ, h') else none
    | _ => none) ts
  | .Delete ts _ => one (fun t => match t with
    | .Subscript o i _ => if notSlice i then (rec o κ ρ h).bind fun q => (rec i κ ρ q.2).bind fun r => (delIdx b q.1 r.1 r.2).map fun h' => (.next, ρ, h') else none
    | _ => none) ts
  | .If t body orelse _ => (recT t κ ρ h).bind fun p => if p.1 then exs recS body ρ p.2 else exs recS orelse ρ p.2
  | .For t it body orelse _ => match orelse with
    | [] => (evIter g rec κ ρ it h).bind fun q => loopS q.1.2 q.1.1 (fun x ρ h => (bindT ω t x ρ).bind fun ρ' => exs recS body ρ' h) q.1.1 ρ q.2
    | _ => none
  | _ => none

noncomputable def exT (g : Glob) (b : Nat) (ω : Str → Bool) (κ : Kap) : Nat → RecS
  | 0 => fun _ _ _ => none
  | n + 1 => exF g b ω κ (evT g b n).1 (evT g b n).2 (exT g b ω κ n)

structure FnD where
  params : List Str
  body : List Stmt
  scope : Scope

noncomputable def fuel : Nat := 30

noncomputable def runFn (g : Glob) (f : FnD) (args : List V) (h : Hp) : Option (V × Hp) :=
  if args.length = f.params.length then
    match exs (exT g h.length (fun x => ownName f.scope x) (fun x => f.scope.names.lookup x) fuel) f.body (fun x => (f.params.zip args).reverse.lookup x) h with
    | some (.ret v, _, h') => some (v, h')
    | some (.next, _, h') => some (.none, h')
    | _ => none
  else none

/-- the defs of the text -/
noncomputable def fnList : List Stmt → List (Str × FnD)
  | [] => []
  | .FunctionDef name a body [] _ _ scope _ _ _ :: r => (name, ⟨a.args.map (·.arg), body, scope⟩) :: fnList r
  | _ :: r => fnList r
noncomputable def fnOf (p : Program) (x : Str) : Option FnD := (fnList p.main.body).lookup x

noncomputable def constItems : List (Option Expr) → List Expr → Option (List (Str × V))
  | [], [] => some []
  | some (.Constant (.str k) _ _) :: ks, .Constant c _ _ :: vs => (cval c).bind fun v => (constItems ks vs).map ((k, v) :: ·)
  | _, _ => none
noncomputable def dctIn (f : FnD) : Option (List (Str × V)) :=
  match f.params, f.body with
  | [], [.Return (some (.Dict ks vs _)) _] => (constItems ks vs).bind fun es => if 0 < es.length ∧ es.length ≤ 15 ∧ (es.map (·.1)).Nodup then some es else none
  | _, _ => none
noncomputable def globs (p : Program) (val : Str → Option V) (u : Bool) : Nat → Glob
  | 0 => ⟨val, fun x => (fnOf p x).isSome, fun _ _ _ => none, fun _ => none⟩
  | d + 1 => ⟨val, fun x => (fnOf p x).isSome, fun x args h => (fnOf p x).bind fun f => runFn (globs p val u d) f args h, fun x => if u then (fnOf p x).bind dctIn else none⟩

end Mine
end

section
set_option autoImplicit false
set_option maxRecDepth 100000
namespace Mine
open PySem

/-! ### the small reading with what follows handed on: its value on a written text is read off by computation -/
/- a bind under a name of its own: the kernel then unfolds it instead of comparing what follows -/
noncomputable def ob1 {α R : Type} (o : Option α) (k : α → Option R) : Option R := match o with | some v => k v | none => none
noncomputable def ob2 {α R : Type} (o : Option α) (k : α → Option R) : Option R := ob1 o k
noncomputable def ob3 {α R : Type} (o : Option α) (k : α → Option R) : Option R := ob2 o k
noncomputable def ob4 {α R : Type} (o : Option α) (k : α → Option R) : Option R := ob3 o k
noncomputable def ob {α R : Type} (o : Option α) (k : α → Option R) : Option R := ob4 o k
theorem ob_eq {α R : Type} (o : Option α) (k : α → Option R) : ob o k = o.bind k := by cases o <;> rfl
abbrev EvC := (R : Type) → Expr → Kap → Rho → Hp → (V → Hp → Option R) → Option R
abbrev TsC := (R : Type) → Expr → Kap → Rho → Hp → (Bool → Hp → Option R) → Option R

noncomputable def evsC (rec : EvC) (R : Type) (κ : Kap) (ρ : Rho) : List Expr → Hp → (List V → Hp → Option R) → Option R
  | [], h, k => k [] h
  | e :: r, h, k => if notStar e then rec R e κ ρ h fun v h => evsC rec R κ ρ r h fun vs h => k (v :: vs) h else none

noncomputable def evBoolC (rec : EvC) (R : Type) (op : BoolOp) (κ : Kap) (ρ : Rho) : List Expr → Hp → (V → Hp → Option R) → Option R
  | [], _, _ => none
  | [e], h, k => rec R e κ ρ h k
  | e :: r, h, k => rec R e κ ρ h fun v h => (truthV v).bind fun t =>
    match op with
    | .And => if t then evBoolC rec R op κ ρ r h k else k v h
    | .Or => if t then k v h else evBoolC rec R op κ ρ r h k

noncomputable def cmpChainC (rec : EvC) (R : Type) (κ : Kap) (ρ : Rho) : V → List CmpOp → List Expr → Hp → (Bool → Hp → Option R) → Option R
  | x, [op], [e], h, k => if notSet e then rec R e κ ρ h fun y h => (cmpop op x y h).bind fun c => k c h else none
  | _, _, _, _, _ => none

noncomputable def evOptC (rec : EvC) (R : Type) (κ : Kap) (ρ : Rho) : Option Expr → Hp → (V → Hp → Option R) → Option R
  | none, h, k => k .none h
  | some e, h, k => rec R e κ ρ h k

noncomputable def evIterC (g : Glob) (rec : EvC) (R : Type) (κ : Kap) (ρ : Rho) (e : Expr) (h : Hp) (k : List V → Option Nat → Hp → Option R) : Option R :=
  if notSet e then
    (rangeCall e).elim (rec R e κ ρ h fun v h => (itemsOf v h).bind fun q => k q.1 q.2 h) fun fa =>
      if isGlobalB g κ fa.1 then evsC rec R κ ρ fa.2 h fun vs h => (rangeArgs vs).bind fun r => k (rangeV r.1 r.2) none h else none
  else none

noncomputable def tstsC (recT : TsC) (R : Type) (κ : Kap) (ρ : Rho) : List Expr → Hp → (Bool → Hp → Option R) → Option R
  | [], h, k => k true h
  | e :: r, h, k => recT R e κ ρ h fun t h => if t then tstsC recT R κ ρ r h k else k false h

noncomputable def cgoC (g : Glob) (rec : EvC) (recT : TsC) (ω : Str → Bool) (elt : Expr) (acc : Nat) (κ : Kap) : List Comprehension → Rho → Hp → Option Hp
  | [], ρ, h => rec Hp elt κ ρ h fun v h => appendTo acc v h
  | g1 :: rest, ρ, h =>
    if g1.is_async = 0 ∧ freshT g1.target ρ = true then
    evIterC g rec Hp κ ρ g1.iter h fun items c h => loopL c items (fun x h => ob (bindT ω g1.target x ρ) fun ρ' =>
      tstsC recT Hp κ ρ' g1.ifs h fun t h => if t then cgoC g rec recT ω elt acc κ rest ρ' h else some h) items h
    else none

noncomputable def evCompC (g : Glob) (rec : EvC) (recT : TsC) (R : Type) (elt : Expr) (gens : List Comprehension) (scope : Scope) (κ : Kap) (ρ : Rho) (h : Hp) (k : V → Hp → Option R) : Option R :=
  match gens with
  | [] => none
  | g1 :: rest =>
    if g1.is_async = 0 ∧ freeOk scope κ = true ∧ freshT g1.target (fun y => if ownName scope y then none else ρ y) = true then
    evIterC g rec R κ ρ g1.iter h fun items c h =>
      (loopL c items (fun x h' => ob (bindT (ownName scope) g1.target x (fun y => if ownName scope y then none else ρ y)) fun ρ' =>
        tstsC recT Hp (compKap scope κ) ρ' g1.ifs h' fun t h' => if t then cgoC g rec recT (ownName scope) elt h.length (compKap scope κ) rest ρ' h' else some h')
        items (h ++ [[]])).bind fun h' => k (.ref h.length) h'
    else none

noncomputable def evFC (g : Glob) (b : Nat) (rec : EvC) (recT : TsC) (R : Type) (e : Expr) (κ : Kap) (ρ : Rho) (h : Hp) (k : V → Hp → Option R) : Option R :=
  match e with
  | .Constant c _ _ => ob (cval c) fun v => k v h
  | .Name x _ => ob (nameV g κ ρ x) fun v => k v h
  | .BoolOp op vs _ => evBoolC rec R op κ ρ vs h k
  | .BinOp l op r _ => rec R l κ ρ h fun x h => rec R r κ ρ h fun y h => (binop op x y h).bind fun p => k p.1 p.2
  | .UnaryOp op x _ => rec R x κ ρ h fun v h => (unop op v).bind fun u => k u h
  | .Compare l ops cs _ => rec R l κ ρ h fun x h => cmpChainC rec R κ ρ x ops cs h fun t h => k (.bool t) h
  | .Call f args kws pos => match kws with
    | [] => (match f with
      | .Attribute o m ap => if okBase o ∧ ap.endLine = pos.line ∧ args.length < 30 then
          rec R o κ ρ h fun x h => evsC rec R κ ρ args h fun vs h => (callM b m x vs h).bind fun p => k p.1 p.2 else none
      | .Name f _ => if κ f = some .globalImplicit ∧ f ≠ "__debug__" ∧ args.length < 30 then
          (if g.isFn f then (if g.val f = none then evsC rec R κ ρ args h fun vs h => (g.fn f vs h).bind fun p => k p.1 p.2 else none)
          else if isGlobalB g κ f then evsC rec R κ ρ args h fun vs h => (callB f vs h).bind fun p => k p.1 p.2 else none) else none
      | _ => none)
    | _ => none
  | .Subscript v i _ => (sliceOf i).elim ((dctOf g κ v).elim (rec R v κ ρ h fun x h => rec R i κ ρ h fun y h => (idx x y h).bind fun v => k v h) fun es =>
      rec R i κ ρ h fun y h => (dctLk es y).bind fun v => k v h) fun y =>
      rec R v κ ρ h fun x h => evOptC rec R κ ρ y.1 h fun a h => evOptC rec R κ ρ y.2.1 h fun c h => evOptC rec R κ ρ y.2.2 h fun d h => (slice x a c d h).bind fun p => k p.1 p.2
  | .List es _ => evsC rec R κ ρ es h fun vs h => if vs.length ≤ sizeLine then k (.ref h.length) (h ++ [vs]) else none
  | .Tuple es _ _ => evsC rec R κ ρ es h fun vs h => if vs.length ≤ sizeLine then k (.tup vs) h else none
  | .ListComp elt gens scope _ => evCompC g rec recT R elt gens scope κ ρ h k
  | _ => none

noncomputable def tstAllC (recT : TsC) (R : Type) (op : BoolOp) (κ : Kap) (ρ : Rho) : List Expr → Hp → (Bool → Hp → Option R) → Option R
  | [], h, k => k (op == .And) h
  | e :: r, h, k => recT R e κ ρ h fun t h =>
    match op with
    | .And => if t then tstAllC recT R op κ ρ r h k else k false h
    | .Or => if t then k true h else tstAllC recT R op κ ρ r h k

noncomputable def evAnyC (g : Glob) (rec : EvC) (recQ : Nat → EvC) (R : Type) (elt : Expr) (g1 : Comprehension) (scope : Scope) (κ : Kap) (ρ : Rho) (h : Hp) (k : Bool → Hp → Option R) : Option R :=
  ob (nameOf g1.target) fun x => if genOk scope κ g1 x then ob (rangeCall g1.iter) fun fa => if isGlobalB g κ fa.1 then evsC rec R κ ρ fa.2 h fun vs h => (rangeArgs vs).bind fun r =>
    (anyG (fun v => recQ h.length Bool elt (fun y => scope.names.lookup y) (upd (fun y => if ownName scope y then none else ρ y) x v) h fun v h' => keepH h h' v) (rangeV r.1 r.2)).bind fun t => k t h else none else none
noncomputable def tstPC (g : Glob) (rec : EvC) (recQ : Option (Nat → EvC)) (R : Type) (e : Expr) (κ : Kap) (ρ : Rho) (h : Hp) (k : Bool → Hp → Option R) : Option R :=
  (genAny e).elim (rec R e κ ρ h fun v h => (truthV v).bind fun t => k t h) fun q => recQ.elim none fun rq => if q.2.2.2 = "any" ∧ isGlobalB g κ q.2.2.2 = true then evAnyC g rec rq R q.1 q.2.1 q.2.2.1 κ ρ h k else none
noncomputable def tstFC (g : Glob) (rec : EvC) (recQ : Option (Nat → EvC)) (recT : TsC) (R : Type) (e : Expr) (κ : Kap) (ρ : Rho) (h : Hp) (k : Bool → Hp → Option R) : Option R :=
  match e with
  | .UnaryOp op x _ => if isNotOp op then recT R x κ ρ h fun t h => k (!t) h else none
  | .BoolOp op vs _ => tstAllC recT R op κ ρ vs h k
  | .Compare l ops cs _ => rec R l κ ρ h fun x h => cmpChainC rec R κ ρ x ops cs h k
  | .IfExp .. => none
  | e => tstPC g rec recQ R e κ ρ h k

noncomputable def evQC (g : Glob) (b : Nat) : Nat → EvC × TsC
  | 0 => (fun _ _ _ _ _ _ => none, fun _ _ _ _ _ _ => none)
  | n + 1 => (evFC g b (evQC g b n).1 (evQC g b n).2, tstFC g (evQC g b n).1 none (evQC g b n).2)
noncomputable def evTC (g : Glob) (b : Nat) : Nat → EvC × TsC
  | 0 => (fun _ _ _ _ _ _ => none, fun _ _ _ _ _ _ => none)
  | n + 1 => (evFC g b (evTC g b n).1 (evTC g b n).2, tstFC g (evTC g b n).1 (some fun b' => (evQC (quietG g) b' n).1) (evTC g b n).2)

abbrev ExC := (R : Type) → Stmt → Rho → Hp → (Fl → Rho → Hp → Option R) → Option R
noncomputable def exsC (rec : ExC) (R : Type) : List Stmt → Rho → Hp → (Fl → Rho → Hp → Option R) → Option R
  | [], ρ, h, k => k .next ρ h
  | s :: r, ρ, h, k => rec R s ρ h fun f ρ h => match f with
    | .next => exsC rec R r ρ h k
    | f => k f ρ h

noncomputable def exFC (g : Glob) (b : Nat) (ω : Str → Bool) (κ : Kap) (rec : EvC) (recT : TsC) (recS : ExC) (R : Type) (st : Stmt) (ρ : Rho) (h : Hp) (k : Fl → Rho → Hp → Option R) : Option R :=
  match st with
  | .Expr e _ => if notComp e then rec R e κ ρ h fun v h => if isNoneV v then k .next ρ h else none else none
  | .Break _ => k .brk ρ h
  | .Continue _ => k .cont ρ h
  | .Return (some e) _ => rec R e κ ρ h fun v h => k (.ret v) ρ h
  | .Assign ts e _ => one (fun t => match t with
    | .Name x _ => if ω x then rec R e κ ρ h fun v h => k .next (upd ρ x v) h else none
    | .Subscript o i _ => if notComp e && notSlice i then rec R e κ ρ h fun v h => rec R o κ ρ h fun x h => rec R i κ ρ h fun y h => (setIdx b x y v h).bind fun h' => k .next ρ h' else none
    | _ => none) ts
  | .Delete ts _ => one (fun t => match t with
    | .Subscript o i _ => if notSlice i then rec R o κ ρ h fun x h => rec R i κ ρ h fun y h => (delIdx b x y h).bind fun h' => k .next ρ h' else none
    | _ => none) ts
  | .If t body orelse _ => recT R t κ ρ h fun c h => if c then exsC recS R body ρ h k else exsC recS R orelse ρ h k
  | .For t it body orelse _ => match orelse with
    | [] => evIterC g rec R κ ρ it h fun items c h => (loopS c items (fun x ρ h => ob (bindT ω t x ρ) fun ρ' => exsC recS (Fl × Rho × Hp) body ρ' h fun f ρ h => some (f, ρ, h)) items ρ h).bind fun q => k q.1 q.2.1 q.2.2
    | _ => none
  | _ => none

noncomputable def exTC (g : Glob) (b : Nat) (ω : Str → Bool) (κ : Kap) : Nat → ExC
  | 0 => fun _ _ _ _ _ => none
  | n + 1 => exFC g b ω κ (evTC g b n).1 (evTC g b n).2 (exTC g b ω κ n)

noncomputable def runFnC (g : Glob) (f : FnD) (args : List V) (h : Hp) : Option (V × Hp) :=
  if args.length = f.params.length then
    exsC (exTC g h.length (fun x => ownName f.scope x) (fun x => f.scope.names.lookup x) fuel) (V × Hp) f.body (fun x => (f.params.zip args).reverse.lookup x) h fun fl _ h => match fl with
      | .ret v => some (v, h)
      | .next => some (.none, h)
      | _ => none
  else none

/-! the two readings agree -/
section
variable {α β R S : Type}
theorem bmp {o : Option α} {k' : α → Option R} {f : α → β} {k : β → Option R} (H : ∀ a, k' a = k (f a)) : o.bind k' = (o.map f).bind k := by cases o with | none => rfl | some a => exact H a
theorem bassoc (o : Option α) (f : α → Option β) (k : β → Option R) : (o.bind f).bind k = o.bind fun a => (f a).bind k := by cases o <;> rfl
theorem bcongr {o : Option α} {f g : α → Option β} (h : ∀ a, f a = g a) : o.bind f = o.bind g := by rw [funext h]
theorem bst {o : Option α} {k' : α → Option R} {f : α → Option S} {g : S → Option R} (H : ∀ p, k' p = (f p).bind g) : o.bind k' = (o.bind f).bind g := (bcongr H).trans (bassoc ..).symm
theorem iteb {c : Prop} [Decidable c] {a : Option R} {x : Option S} {g : S → Option R} (h : a = x.bind g) : (if c then a else none) = (if c then x else none).bind g := by
  by_cases q : c
  · rw [if_pos q, if_pos q]; exact h
  · rw [if_neg q, if_neg q]; rfl
theorem ite2 {c : Prop} [Decidable c] {a b : Option R} {x y : Option S} {g : S → Option R} (h : a = x.bind g) (h' : b = y.bind g) : (if c then a else b) = (if c then x else y).bind g := by
  by_cases q : c
  · rw [if_pos q, if_pos q]; exact h
  · rw [if_neg q, if_neg q]; exact h'
theorem elimb {o : Option α} {n : Option R} {f : α → Option R} {n' : Option S} {f' : α → Option S} {g : S → Option R} (h : n = n'.bind g) (h' : ∀ a, f a = (f' a).bind g) : o.elim n f = (o.elim n' f').bind g := by
  cases o with
  | none => exact h
  | some a => exact h' a
noncomputable def RC (rec : Expr → Kap → Rho → Hp → Option (α × Hp)) (recC : (R : Type) → Expr → Kap → Rho → Hp → (α → Hp → Option R) → Option R) : Prop := ∀ R e κ ρ h k, recC R e κ ρ h k = (rec e κ ρ h).bind fun p => k p.1 p.2
theorem RC.st {rec : Expr → Kap → Rho → Hp → Option (α × Hp)} {recC : (R : Type) → Expr → Kap → Rho → Hp → (α → Hp → Option R) → Option R} (hr : RC rec recC) {e : Expr} {κ : Kap} {ρ : Rho} {h : Hp} {k' : α → Hp → Option R} {f : α × Hp → Option S} {g : S → Option R} (H : ∀ p : α × Hp, k' p.1 p.2 = (f p).bind g) :
    recC R e κ ρ h k' = ((rec e κ ρ h).bind f).bind g := (hr ..).trans (bst H)
end

section
variable {g : Glob} {b : Nat} {rec : Rec} {recC : EvC} {recT : RecT} {recTC : TsC} {R S : Type} {κ : Kap} {ρ : Rho}

theorem evsC_eq (hr : RC rec recC) (es : List Expr) : ∀ (h : Hp) (k : List V → Hp → Option R), evsC recC R κ ρ es h k = (evs rec κ ρ es h).bind fun p => k p.1 p.2 := by
  induction es with
  | nil => exact fun _ _ => rfl
  | cons e r ih => exact fun h k => iteb (hr.st fun p => (ih ..).trans (bmp fun _ => rfl))
theorem evsC_st (hr : RC rec recC) {es : List Expr} {h : Hp} {k' : List V → Hp → Option R} {f : List V × Hp → Option S} {g : S → Option R} (H : ∀ p : List V × Hp, k' p.1 p.2 = (f p).bind g) : evsC recC R κ ρ es h k' = ((evs rec κ ρ es h).bind f).bind g := (evsC_eq hr ..).trans (bst H)

theorem evBoolC_eq (hr : RC rec recC) {op : BoolOp} (es : List Expr) : ∀ (h : Hp) (k : V → Hp → Option R), evBoolC recC R op κ ρ es h k = (evBool rec op κ ρ es h).bind fun p => k p.1 p.2 := by
  induction es with
  | nil => exact fun _ _ => rfl
  | cons e r ih =>
    intro h k
    cases r with
    | nil => exact hr ..
    | cons e' r =>
      refine hr.st fun p => bst fun t => ?_
      cases op <;> cases t <;> first | rfl | exact ih p.2 k

theorem cmpChainC_eq (hr : RC rec recC) (ops : List CmpOp) (x : V) (es : List Expr) (h : Hp) (k : Bool → Hp → Option R) : cmpChainC recC R κ ρ x ops es h k = (cmpChain rec κ ρ x ops es h).bind fun p => k p.1 p.2 := by
  cases ops with
  | nil => rfl
  | cons op ops =>
  cases ops with
  | cons _ _ => rfl
  | nil =>
  cases es with
  | nil => rfl
  | cons e es =>
  cases es with
  | cons _ _ => rfl
  | nil => exact iteb (hr.st fun p => bmp fun _ => rfl)

theorem evOptC_eq (hr : RC rec recC) (e : Option Expr) (h : Hp) (k : V → Hp → Option R) : evOptC recC R κ ρ e h k = (evOpt rec κ ρ e h).bind fun p => k p.1 p.2 := by
  cases e with
  | none => rfl
  | some e => exact hr ..
theorem evOptC_st (hr : RC rec recC) {e : Option Expr} {h : Hp} {k' : V → Hp → Option R} {f : V × Hp → Option S} {g : S → Option R} (H : ∀ p : V × Hp, k' p.1 p.2 = (f p).bind g) : evOptC recC R κ ρ e h k' = ((evOpt rec κ ρ e h).bind f).bind g := (evOptC_eq hr ..).trans (bst H)

theorem evIterC_eq (hr : RC rec recC) (e : Expr) (h : Hp) (k : List V → Option Nat → Hp → Option R) : evIterC g recC R κ ρ e h k = (evIter g rec κ ρ e h).bind fun q => k q.1.1 q.1.2 q.2 :=
  iteb (elimb (hr.st fun p => bmp fun _ => rfl) fun fa => iteb (evsC_st hr fun q => bmp fun _ => rfl))

theorem tstsC_eq (ht : RC recT recTC) (es : List Expr) : ∀ (ρ : Rho) (h : Hp) (k : Bool → Hp → Option R), tstsC recTC R κ ρ es h k = (tsts recT κ ρ es h).bind fun p => k p.1 p.2 := by
  induction es with
  | nil => exact fun _ _ _ => rfl
  | cons e r ih => exact fun ρ h k => ht.st fun p => ite2 (ih ..) rfl

noncomputable def turnC (recTC : TsC) (ω : Str → Bool) (κ : Kap) (g1 : Comprehension) (ρ : Rho) (go : Rho → Hp → Option Hp) : V → Hp → Option Hp := fun x h => ob (bindT ω g1.target x ρ) fun ρ' => tstsC recTC Hp κ ρ' g1.ifs h fun t h => if t then go ρ' h else some h
noncomputable def turnD (recT : RecT) (ω : Str → Bool) (κ : Kap) (g1 : Comprehension) (ρ : Rho) (go : Rho → Hp → Option Hp) : V → Hp → Option Hp := fun x h => (bindT ω g1.target x ρ).bind fun ρ' => (tsts recT κ ρ' g1.ifs h).bind fun p => if p.1 then go ρ' p.2 else some p.2
theorem turn_eq (ht : RC recT recTC) {ω : Str → Bool} {g1 : Comprehension} {go go' : Rho → Hp → Option Hp} (H : ∀ ρ h, go ρ h = go' ρ h) : turnC recTC ω κ g1 ρ go = turnD recT ω κ g1 ρ go' := by
  have e : go = go' := funext fun ρ => funext fun h => H ρ h
  subst e
  exact funext fun x => funext fun h => (ob_eq ..).trans (bcongr fun ρ' => tstsC_eq ht ..)
theorem cgoC_eq (hr : RC rec recC) (ht : RC recT recTC) {ω : Str → Bool} {elt : Expr} {acc : Nat} (gens : List Comprehension) : ∀ (ρ : Rho) (h : Hp), cgoC g recC recTC ω elt acc κ gens ρ h = cgo g rec recT ω elt acc κ gens ρ h := by
  induction gens with
  | nil => exact fun ρ h => hr ..
  | cons g1 rest ih =>
    intro ρ h
    have e := turn_eq (ρ := ρ) (κ := κ) (ω := ω) (g1 := g1) ht ih
    show (if _ then evIterC g recC Hp κ ρ g1.iter h fun items c h => loopL c items (turnC recTC ω κ g1 ρ (cgoC g recC recTC ω elt acc κ rest)) items h else none) = (if _ then (evIter g rec κ ρ g1.iter h).bind fun q => loopL q.1.2 q.1.1 (turnD recT ω κ g1 ρ (cgo g rec recT ω elt acc κ rest)) q.1.1 q.2 else none)
    rw [e, evIterC_eq hr]

theorem evCompC_eq (hr : RC rec recC) (ht : RC recT recTC) (elt : Expr) (gens : List Comprehension) (scope : Scope) (h : Hp) (k : V → Hp → Option R) : evCompC g recC recTC R elt gens scope κ ρ h k = (evComp g rec recT elt gens scope κ ρ h).bind fun p => k p.1 p.2 := by
  cases gens with
  | nil => rfl
  | cons g1 rest =>
    refine iteb ((evIterC_eq hr ..).trans (bst fun q => ?_))
    have e := turn_eq (ρ := fun y => if ownName scope y then none else ρ y) (κ := compKap scope κ) (ω := ownName scope) (g1 := g1) ht (cgoC_eq (g := g) (κ := compKap scope κ) (ω := ownName scope) (elt := elt) (acc := q.2.length) hr ht rest)
    show (loopL q.1.2 q.1.1 (turnC recTC _ _ g1 _ _) q.1.1 (q.2 ++ [[]])).bind _ = _
    rw [e]
    exact bmp fun _ => rfl

theorem evFC_eq (hr : RC rec recC) (ht : RC recT recTC) : RC (evF g b rec recT) (evFC g b recC recTC) := by
  intro R e κ ρ h k
  cases e
  case Constant c _ _ => exact (ob_eq ..).trans (bmp fun _ => rfl)
  case Name x _ => exact (ob_eq ..).trans (bmp fun _ => rfl)
  case BoolOp => exact evBoolC_eq hr ..
  case BinOp l op r _ => exact hr.st fun p => hr.st fun q => rfl
  case UnaryOp op x _ => exact hr.st fun p => bmp fun _ => rfl
  case Compare l ops cs _ => exact hr.st fun p => (cmpChainC_eq hr ..).trans (bmp fun _ => rfl)
  case Call f args kws pos =>
    cases kws
    case cons => rfl
    case nil =>
    cases f
    case Attribute o m ap => exact iteb (hr.st fun p => evsC_st hr fun q => rfl)
    case Name f _ => exact iteb (ite2 (iteb (evsC_st hr fun q => rfl)) (iteb (evsC_st hr fun q => rfl)))
    all_goals rfl
  case Subscript v i _ => exact elimb (elimb (hr.st fun p => hr.st fun q => bmp fun _ => rfl) fun es => hr.st fun q => bmp fun _ => rfl) fun x => hr.st fun p => evOptC_st hr fun q => evOptC_st hr fun r => evOptC_st hr fun t => rfl
  case List es _ => exact evsC_st hr fun p => iteb rfl
  case Tuple es _ _ => exact evsC_st hr fun p => iteb rfl
  case ListComp => exact evCompC_eq hr ht ..
  all_goals rfl

theorem tstAllC_eq (ht : RC recT recTC) {op : BoolOp} (es : List Expr) : ∀ (h : Hp) (k : Bool → Hp → Option R), tstAllC recTC R op κ ρ es h k = (tstAll recT op κ ρ es h).bind fun p => k p.1 p.2 := by
  induction es with
  | nil => exact fun _ _ => rfl
  | cons e r ih =>
    refine fun h k => ht.st fun p => ?_
    obtain ⟨t, h'⟩ := p
    cases op <;> cases t <;> first | rfl | exact ih h' k

theorem evAnyC_eq {recQ : Nat → Rec} {recQC : Nat → EvC} (hr : RC rec recC) (hq : ∀ b', RC (recQ b') (recQC b')) (elt : Expr) (g1 : Comprehension) (scope : Scope) (h : Hp) (k : Bool → Hp → Option R) : evAnyC g recC recQC R elt g1 scope κ ρ h k = (evAny g rec recQ elt g1 scope κ ρ h).bind fun p => k p.1 p.2 := by
  refine (ob_eq ..).trans (bst fun x => iteb ((ob_eq ..).trans (bst fun fa => iteb (evsC_st hr fun q => bst fun r => ?_))))
  have e : (fun v => recQC q.2.length Bool elt (fun y => scope.names.lookup y) (upd (fun y => if ownName scope y then none else ρ y) x v) q.2 fun v h' => keepH q.2 h' v) = fun v => (recQ q.2.length elt (fun y => scope.names.lookup y) (upd (fun y => if ownName scope y then none else ρ y) x v) q.2).bind fun p => keepH q.2 p.2 p.1 := funext fun v => hq q.2.length ..
  rw [e]
  exact bmp fun _ => rfl
/-- the two quiet readings agree -/
inductive QC : Option (Nat → Rec) → Option (Nat → EvC) → Prop
  | none : QC none none
  | some {rq : Nat → Rec} {rqC : Nat → EvC} : (∀ b', RC (rq b') (rqC b')) → QC (some rq) (some rqC)
theorem tstPC_eq {recQ : Option (Nat → Rec)} {recQC : Option (Nat → EvC)} (hr : RC rec recC) (hq : QC recQ recQC) (e : Expr) (h : Hp) (k : Bool → Hp → Option R) : tstPC g recC recQC R e κ ρ h k = (tstP g rec recQ e κ ρ h).bind fun p => k p.1 p.2 := by
  unfold tstPC tstP
  cases genAny e with
  | none => exact hr.st fun p => bmp fun _ => rfl
  | some q =>
    cases hq with
    | none => rfl
    | some hq => exact iteb (evAnyC_eq hr hq ..)
theorem tstFC_eq {recQ : Option (Nat → Rec)} {recQC : Option (Nat → EvC)} (hr : RC rec recC) (hq : QC recQ recQC) (ht : RC recT recTC) : RC (tstF g rec recQ recT) (tstFC g recC recQC recTC) := by
  intro R e κ ρ h k
  cases e
  case UnaryOp op x _ => exact iteb ((ht ..).trans (bmp fun _ => rfl))
  case BoolOp => exact tstAllC_eq ht ..
  case Compare => exact hr.st fun p => cmpChainC_eq hr ..
  case IfExp => rfl
  all_goals exact tstPC_eq hr hq ..

theorem evQC_eq (n : Nat) : RC (evQ g b n).1 (evQC g b n).1 ∧ RC (evQ g b n).2 (evQC g b n).2 := by
  induction n with
  | zero => exact ⟨fun _ _ _ _ _ _ => rfl, fun _ _ _ _ _ _ => rfl⟩
  | succ n ih => exact ⟨evFC_eq ih.1 ih.2, tstFC_eq ih.1 .none ih.2⟩
theorem evTC_eq (n : Nat) : RC (evT g b n).1 (evTC g b n).1 ∧ RC (evT g b n).2 (evTC g b n).2 := by
  induction n with
  | zero => exact ⟨fun _ _ _ _ _ _ => rfl, fun _ _ _ _ _ _ => rfl⟩
  | succ n ih => exact ⟨evFC_eq ih.1 ih.2, tstFC_eq ih.1 (.some fun b' => (evQC_eq (b := b') n).1) ih.2⟩

noncomputable def SC' (rec : RecS) (recC : ExC) : Prop := ∀ R st ρ h k, recC R st ρ h k = (rec st ρ h).bind fun q => k q.1 q.2.1 q.2.2
theorem exsC_eq {recS : RecS} {recSC : ExC} (hs : SC' recS recSC) (body : List Stmt) : ∀ (R : Type) (ρ : Rho) (h : Hp) (k : Fl → Rho → Hp → Option R), exsC recSC R body ρ h k = (exs recS body ρ h).bind fun q => k q.1 q.2.1 q.2.2 := by
  induction body with
  | nil => exact fun _ _ _ _ => rfl
  | cons s r ih =>
    refine fun R ρ h k => (hs ..).trans (bst fun q => ?_)
    obtain ⟨f, ρ', h'⟩ := q
    cases f
    · exact ih R ρ' h' k
    all_goals rfl
theorem osome (o : Option (Fl × Rho × Hp)) : (o.bind fun q => some (q.1, q.2.1, q.2.2)) = o := by cases o <;> rfl

theorem exFC_eq {ω : Str → Bool} {recS : RecS} {recSC : ExC} (hr : RC rec recC) (ht : RC recT recTC) (hs : SC' recS recSC) : SC' (exF g b ω κ rec recT recS) (exFC g b ω κ recC recTC recSC) := by
  intro R st ρ h k
  cases st
  case Expr e _ => exact iteb (hr.st fun p => iteb rfl)
  case Return e _ =>
    cases e
    · rfl
    · exact (hr ..).trans (bmp fun _ => rfl)
  case Assign ts e _ =>
    rcases ts with _ | ⟨t, _ | ⟨t2, ts⟩⟩
    · rfl
    · cases t
      case Name x _ => exact iteb ((hr ..).trans (bmp fun _ => rfl))
      case Subscript o i _ => exact iteb (hr.st fun p => hr.st fun q => hr.st fun r => bmp fun _ => rfl)
      all_goals rfl
    · rfl
  case Delete ts _ =>
    rcases ts with _ | ⟨t, _ | ⟨t2, ts⟩⟩
    · rfl
    · cases t
      case Subscript o i _ => exact iteb (hr.st fun p => hr.st fun q => bmp fun _ => rfl)
      all_goals rfl
    · rfl
  case If t body orelse _ => exact ht.st fun p => ite2 (exsC_eq hs ..) (exsC_eq hs ..)
  case For t it body orelse _ =>
    cases orelse
    · delta exFC exF
      dsimp only
      refine (evIterC_eq hr ..).trans (bst fun q => ?_)
      have e : (fun x ρ h => ob (bindT ω t x ρ) fun ρ' => exsC recSC (Fl × Rho × Hp) body ρ' h fun f ρ h => some (f, ρ, h)) = fun x ρ h => (bindT ω t x ρ).bind fun ρ' => exs recS body ρ' h :=
        funext fun x => funext fun ρ => funext fun h => (ob_eq ..).trans (bcongr fun ρ' => (exsC_eq hs ..).trans (osome _))
      rw [e]
    · rfl
  all_goals rfl

theorem exTC_eq {ω : Str → Bool} (n : Nat) : SC' (exT g b ω κ n) (exTC g b ω κ n) := by
  induction n with
  | zero => exact fun _ _ _ _ _ => rfl
  | succ n ih => exact exFC_eq (evTC_eq n).1 (evTC_eq n).2 ih
end

theorem runFn_eq (g : Glob) (f : FnD) (args : List V) (h : Hp) : runFn g f args h = runFnC g f args h := by
  unfold runFn runFnC
  rw [exsC_eq (exTC_eq fuel)]
  generalize exs _ _ _ _ = r
  by_cases q : args.length = f.params.length
  · rw [if_pos q, if_pos q]
    cases r with
    | none => rfl
    | some q =>
      obtain ⟨fl, ρ, h'⟩ := q
      cases fl <;> rfl
  · rw [if_neg q, if_neg q]
end Mine
end

section
set_option autoImplicit false
namespace Mine
open PySem

mutual
/-- the value w of the model, in the heap h, stands for v; σ: the addresses of the small heap's lists -/
inductive VR (σ : List Addr) (h : Heap) : V → Value → Prop
  | none : VR σ h .none .none
  | bool (b) : VR σ h (.bool b) (.bool b)
  | int (i t) : VR σ h (.int i) (.int i t)
  | str (x t) : x.length ≤ sizeLine → VR σ h (.str x) (.str x t)
  | tup {vs r o arr n} : h.get? r = some o → o.cls = .type "tuple" → o.data = .seq arr n → VRs σ h vs arr.toList → vs.length ≤ sizeLine → VR σ h (.tup vs) (.ref r)
  | ref {a r} : σ[a]? = some r → VR σ h (.ref a) (.ref r)
inductive VRs (σ : List Addr) (h : Heap) : List V → List Value → Prop
  | nil : VRs σ h [] []
  | cons {v vs w ws} : VR σ h v w → VRs σ h vs ws → VRs σ h (v :: vs) (w :: ws)
end

/-- tuples stand as they stood -/
noncomputable def Tups (h h' : Heap) : Prop := ∀ b o, h.get? b = some o → o.cls = .type "tuple" → (∃ arr n, o.data = .seq arr n) → h'.get? b = some o

theorem Tups.refl (h : Heap) : Tups h h := fun _ _ e _ _ => e
theorem Tups.trans {h₁ h₂ h₃ : Heap} (x : Tups h₁ h₂) (y : Tups h₂ h₃) : Tups h₁ h₃ := fun b o e c d => y b o (x b o e c d) c d
theorem Tups.keeps {h h' : Heap} (k : ∀ b o, h.get? b = some o → h'.get? b = some o) : Tups h h' := fun b o e _ _ => k b o e

theorem getElem?_prefix {σ σ' : List Addr} (p : σ <+: σ') {a : Nat} {r : Addr} (e : σ[a]? = some r) : σ'[a]? = some r := by
  obtain ⟨δ, rfl⟩ := p
  rw [List.getElem?_append_left (by have := List.getElem?_eq_some_iff.mp e; exact this.1)]
  exact e

theorem nn {α : Type} {a : α} {P : Prop} (h : (none : Option α) = some a) : P := nomatch h
theorem VR.mono {σ σ' : List Addr} {h h' : Heap} (p : σ <+: σ') (t : Tups h h') {v : V} {w : Value} (x : VR σ h v w) : VR σ' h' v w :=
  VR.rec (motive_1 := fun v w _ => VR σ' h' v w) (motive_2 := fun vs ws _ => VRs σ' h' vs ws) .none (fun b => .bool b) (fun i u => .int i u) (fun x u l => .str x u l)
    (fun e c d _ l ih => .tup (t _ _ e c ⟨_, _, d⟩) c d ih l) (fun e => .ref (getElem?_prefix p e)) .nil (fun _ _ a b => .cons a b) x
theorem VRs.ind {σ : List Addr} {h : Heap} {motive : List V → List Value → Prop} (h0 : motive [] []) (h1 : ∀ v vs w ws, VR σ h v w → VRs σ h vs ws → motive vs ws → motive (v :: vs) (w :: ws))
    {vs : List V} {ws : List Value} (x : VRs σ h vs ws) : motive vs ws :=
  VRs.rec (motive_1 := fun _ _ _ => True) (motive_2 := fun vs ws _ => motive vs ws) trivial (fun _ => trivial) (fun _ _ => trivial) (fun _ _ _ => trivial) (fun _ _ _ _ _ _ => trivial) (fun _ => trivial)
    h0 (fun a b _ ih => h1 _ _ _ _ a b ih) x
section
variable {σ : List Addr} {h : Heap} {vs : List V} {ws : List Value}
theorem VRs.mono {σ' : List Addr} {h' : Heap} (p : σ <+: σ') (t : Tups h h') (x : VRs σ h vs ws) : VRs σ' h' vs ws := x.ind .nil fun _ _ _ _ a _ ih => .cons (a.mono p t) ih
theorem VRs.length (x : VRs σ h vs ws) : vs.length = ws.length := x.ind (motive := fun vs ws => vs.length = ws.length) rfl fun _ _ _ _ _ _ ih => congrArg (· + 1) ih
theorem VRs.get (x : VRs σ h vs ws) {i : Nat} {v : V} (e : vs[i]? = some v) : ∃ w, ws[i]? = some w ∧ VR σ h v w :=
  x.ind (motive := fun vs ws => ∀ i v, vs[i]? = some v → ∃ w, ws[i]? = some w ∧ VR σ h v w) (fun _ _ e => nn e)
    (fun v vs w ws a _ ih i u e => by
      cases i
      · cases e; exact ⟨w, rfl, a⟩
      · exact ih _ u e) i v e
theorem VRs.append {vs' : List V} {ws' : List Value} (x : VRs σ h vs ws) (y : VRs σ h vs' ws') : VRs σ h (vs ++ vs') (ws ++ ws') :=
  x.ind (motive := fun vs ws => VRs σ h (vs ++ vs') (ws ++ ws')) y fun _ _ _ _ a _ ih => .cons a ih
theorem VRs.set (x : VRs σ h vs ws) {i : Nat} {v : V} {w : Value} (q : VR σ h v w) : VRs σ h (vs.set i v) (ws.set i w) :=
  x.ind (motive := fun vs ws => ∀ i, VRs σ h (vs.set i v) (ws.set i w)) (fun _ => .nil) (fun v vs w ws a r ih i => by
    cases i
    · exact .cons q r
    · exact .cons a (ih _)) i
theorem VRs.eraseIdx (x : VRs σ h vs ws) {i : Nat} : VRs σ h (vs.eraseIdx i) (ws.eraseIdx i) :=
  x.ind (motive := fun vs ws => ∀ i, VRs σ h (vs.eraseIdx i) (ws.eraseIdx i)) (fun _ => .nil) (fun v vs w ws a r ih i => by
    cases i
    · exact r
    · exact .cons a (ih _)) i
theorem VRs.drop (x : VRs σ h vs ws) (i : Nat) : VRs σ h (vs.drop i) (ws.drop i) :=
  x.ind (motive := fun vs ws => ∀ i, VRs σ h (vs.drop i) (ws.drop i)) (fun i => by cases i <;> exact .nil) (fun v vs w ws a r ih i => by
    cases i
    · exact .cons a r
    · exact ih _) i
theorem VRs.take (x : VRs σ h vs ws) (i : Nat) : VRs σ h (vs.take i) (ws.take i) :=
  x.ind (motive := fun vs ws => ∀ i, VRs σ h (vs.take i) (ws.take i)) (fun i => by cases i <;> exact .nil) (fun v vs w ws a r ih i => by
    cases i
    · exact .nil
    · exact .cons a (ih _)) i
theorem VR.int_inv {i : Int} {w : Value} (x : VR σ h (.int i) w) : ∃ t, w = .int i t := by cases x; exact ⟨_, rfl⟩
theorem VR.bool_inv {i : Bool} {w : Value} (x : VR σ h (.bool i) w) : w = .bool i := by cases x; rfl
theorem VR.none_inv {w : Value} (x : VR σ h .none w) : w = .none := by cases x; rfl
theorem VR.str_inv {i : Str} {w : Value} (x : VR σ h (.str i) w) : ∃ t, w = .str i t ∧ i.length ≤ sizeLine := by cases x; exact ⟨_, rfl, by assumption⟩
theorem VR.ref_inv {a : Nat} {w : Value} (x : VR σ h (.ref a) w) : ∃ r, w = .ref r ∧ σ[a]? = some r := by cases x; exact ⟨_, rfl, by assumption⟩
theorem VR.tup_inv {vs : List V} {w : Value} (x : VR σ h (.tup vs) w) : ∃ r o arr n, w = .ref r ∧ h.get? r = some o ∧ o.cls = .type "tuple" ∧ o.data = .seq arr n ∧ VRs σ h vs arr.toList ∧ vs.length ≤ sizeLine := by
  cases x with | tup e c d q l => exact ⟨_, _, _, _, rfl, e, c, d, q, l⟩
end

/-- no list of inner codes -/
noncomputable def notP (a : Addr) : Prop := ∀ p ∈ CPs, a ≠ p.2
/-- a code object and its list of inner codes -/
noncomputable def IsCd (h : Heap) (p : Addr × Addr) (ps : Array Value) : Prop := h.IsCode p.1 p.2 ps ∧ h.TableAt p.1 p.2 ps
theorem notP_of {h : Heap} {a : Addr} {o : Obj} (hc : ∀ p ∈ CPs, ∃ ps, IsCd h p ps) (e : h.get? a = some o) (hd : ∀ vs, o.data ≠ .fields vs) : notP a := fun p hp q => by
  obtain ⟨ps, _, _, e2⟩ := hc p hp
  rw [q, e2] at e; cases e
  exact hd _ rfl
theorem notP_new {h : Heap} {a : Addr} (hc : ∀ p ∈ CPs, ∃ ps, IsCd h p ps) (e : h.get? a = none) : notP a := fun p hp q => by
  obtain ⟨ps, _, _, e2⟩ := hc p hp
  rw [q, e2] at e; cases e
/-- the heap that the top left; gx: the frame's code is known -/
structure TT extends Heap where
  gx : Bool
/-- the small heap stands in h -/
structure WR (hT : TT) (σ : List Addr) (H : Hp) (h : Heap) : Prop where
  len : σ.length = H.length
  obj : ∀ (a : Nat) xs r, H[a]? = some xs → σ[a]? = some r → ∃ arr, h.PlainList r arr ∧ VRs σ h xs arr.toList ∧ xs.length ≤ sizeLine
  nodup : σ.Nodup
  top : ∀ b o, hT.get? b = some o → h.get? b = some o
  code : ∀ p ∈ CPs, ∃ ps, IsCd h p ps
  ct : ∀ p ∈ CPs, (∃ o, hT.get? p.1 = some o) ∧ hT.get? p.2 = none

/-- from h to h': more lists; all that stood stands, but W and the lists from b on -/
structure Ext (xp : Bool) (W : List Addr) (b : Nat) (σ : List Addr) (h : Heap) (σ' : List Addr) (h' : Heap) : Prop where
  pre : ∃ δ, σ' = σ ++ δ ∧ ∀ r ∈ δ, h.get? r = none
  there : ∀ a o, h.get? a = some o → ∃ o', h'.get? a = some o'
  keep : ∀ a o, h.get? a = some o → a ∉ W → a ∉ σ.drop b → (xp = true → notP a) → h'.get? a = some o

section
variable {xp : Bool}
theorem Ext.refl (W : List Addr) (b : Nat) (σ : List Addr) (h : Heap) : Ext xp W b σ h σ h := ⟨⟨[], by simp, by simp⟩, fun _ o e => ⟨o, e⟩, fun _ _ e _ _ _ => e⟩
theorem Ext.prefix {W : List Addr} {b : Nat} {σ σ' : List Addr} {h h' : Heap} (x : Ext xp W b σ h σ' h') : σ <+: σ' := let ⟨δ, e, _⟩ := x.pre; ⟨δ, e.symm⟩
theorem drop_append_sub {b : Nat} {σ δ : List Addr} {a : Addr} (h : a ∈ (σ ++ δ).drop b) : a ∈ σ.drop b ∨ a ∈ δ := by
  rw [List.drop_append] at h
  rcases List.mem_append.mp h with h | h
  · exact .inl h
  · exact .inr (List.mem_of_mem_drop h)
theorem Ext.trans {W : List Addr} {b : Nat} {σ₁ σ₂ σ₃ : List Addr} {h₁ h₂ h₃ : Heap} (x : Ext xp W b σ₁ h₁ σ₂ h₂) (y : Ext xp W b σ₂ h₂ σ₃ h₃) : Ext xp W b σ₁ h₁ σ₃ h₃ := by
  obtain ⟨δ, rfl, hδ⟩ := x.pre
  obtain ⟨ε, rfl, hε⟩ := y.pre
  refine ⟨⟨δ ++ ε, by simp, fun r hr => ?_⟩, fun a o e => let ⟨o', e'⟩ := x.there a o e; y.there a o' e', fun a o e hw hd hp => ?_⟩
  · rcases List.mem_append.mp hr with h | h
    · exact hδ r h
    · cases q : h₁.get? r with
      | none => rfl
      | some o =>
        obtain ⟨o', e'⟩ := x.there r o q
        rw [hε r h] at e'; cases e'
  · refine y.keep a o (x.keep a o e hw hd hp) hw (fun hm => ?_) hp
    rcases drop_append_sub hm with h | h
    · exact hd h
    · rw [hδ a h] at e; cases e
theorem Ext.weaken {W W' : List Addr} {b : Nat} {σ σ' : List Addr} {h h' : Heap} (x : Ext xp W b σ h σ' h') (hs : ∀ a o, h.get? a = some o → a ∈ W → a ∈ W') : Ext xp W' b σ h σ' h' :=
  ⟨x.pre, x.there, fun a o e hw hd hp => x.keep a o e (fun q => hw (hs a o e q)) hd hp⟩
/-- a callee's step is a step of the caller's: it changes nothing of what stood -/
theorem Ext.base {W : List Addr} {b c : Nat} {σ σ' : List Addr} {h h' : Heap} (x : Ext xp W c σ h σ' h') (hc : b ≤ c) : Ext xp W b σ h σ' h' :=
  ⟨x.pre, x.there, fun a o e hw hd hp => x.keep a o e hw (fun q => hd (by
    rw [show c = b + (c - b) by lia, ← List.drop_drop] at q
    exact List.mem_of_mem_drop q)) hp⟩

theorem WR.lists {hT : TT} {σ : List Addr} {H : Hp} {h : Heap} (x : WR hT σ H h) {r : Addr} (hr : r ∈ σ) : ∃ arr, h.PlainList r arr := by
  obtain ⟨a, ha, e⟩ := List.getElem_of_mem hr
  have hH : a < H.length := by rw [← x.len]; exact ha
  obtain ⟨arr, p, _⟩ := x.obj a H[a] r (by simp [hH]) (by rw [List.getElem?_eq_getElem ha, e])
  exact ⟨arr, p⟩
theorem WR.lt {hT : TT} {σ : List Addr} {H : Hp} {h : Heap} (x : WR hT σ H h) {r : Addr} (hr : r ∈ σ) : r < h.objs.size := by
  obtain ⟨arr, n, e⟩ := x.lists hr
  exact Heap.lt_size e
theorem WR.not_of {hT : TT} {σ : List Addr} {H : Hp} {h : Heap} (x : WR hT σ H h) {r : Addr} {o : Obj} (e : h.get? r = some o) (hc : o.cls ≠ .type "list") : r ∉ σ := by
  intro hr
  obtain ⟨arr, n, e'⟩ := x.lists hr
  rw [e] at e'; cases e'
  exact hc rfl
theorem WR.not_of_data {hT : TT} {σ : List Addr} {H : Hp} {h : Heap} (x : WR hT σ H h) {r : Addr} {o : Obj} (e : h.get? r = some o) (hc : ∀ arr n, o.data ≠ .seq arr n) : r ∉ σ := by
  intro hr
  obtain ⟨arr, n, e'⟩ := x.lists hr
  rw [e] at e'; cases e'
  exact hc _ _ rfl

/-- the frame's names stand in h -/
structure EnvOK (κ : Kap) (ω : Str → Bool) (ρ : Rho) (W : List Addr) (env : Env) (σ : List Addr) (h : Heap) : Prop where
  fn : env.scope.kind = .function
  kind : ∀ x, env.kindOf x = κ x
  glob : env.globals = mainGlobals
  blt : env.builtins = builtinsNs
  ns : ∃ m, h.Ns env.locals m ∧ ∀ x v, κ x = some .local → ρ x = some v → ∃ w, m x = some w ∧ VR σ h v w
  cell : ∀ x, (κ x = some .cell ∨ κ x = some .free) → ∃ c v₀, env.cells.lookup x = some c ∧ h.IsCell c v₀ ∧ ∀ v, ρ x = some v → ∃ w, v₀ = some w ∧ VR σ h v w
  inj : ∀ x y c, env.cells.lookup x = some c → env.cells.lookup y = some c → x = y
  own : ∀ x, ω x = true → κ x = some .local ∨ (κ x = some .cell ∧ ∀ c, env.cells.lookup x = some c → c ∈ W)
  loc : env.locals ∈ W
  wobj : ∀ a ∈ W, ∃ o, h.get? a = some o ∧ (∀ arr n, o.data ≠ .seq arr n)
  wp : ∀ a ∈ W, notP a

structure Good (hT : TT) (σ₀ : List Addr) (κ : Kap) (ω : Str → Bool) (ρ : Rho) (W : List Addr) (env : Env) (b : Nat) (σ : List Addr) (H : Hp) (h : Heap) : Prop where
  code : hT.gx = true → ∃ p ∈ CPs, env.code = .ref p.1
  wr : WR hT σ H h
  env : EnvOK κ ω ρ W env σ h
  base : b ≤ H.length
  above : ∀ r ∈ σ.drop b, hT.get? r = none
  wabove : ∀ a ∈ W, hT.get? a = none
  tab : σ₀ <+: σ

/-- an expression's step -/
theorem Ext.tups {hT : TT} {b : Nat} {σ σ' : List Addr} {H : Hp} {h h' : Heap} (x : Ext xp [] b σ h σ' h') (wr : WR hT σ H h) : Tups h h' := fun a o e c d =>
  x.keep a o e (fun q => nomatch q) (fun hm => wr.not_of e (by rw [c]; decide) (List.mem_of_mem_drop hm)) (fun _ => notP_of wr.code e fun vs q => by obtain ⟨arr, n, d⟩ := d; rw [d] at q; cases q)
theorem Ext.tupsW {hT : TT} {W : List Addr} {b : Nat} {σ σ' : List Addr} {H : Hp} {h h' : Heap} (x : Ext xp W b σ h σ' h') (wr : WR hT σ H h)
    (hw : ∀ a ∈ W, ∃ o, h.get? a = some o ∧ (∀ arr n, o.data ≠ .seq arr n)) : Tups h h' := fun a o e c d =>
  x.keep a o e (fun q => by
    obtain ⟨o', e', n'⟩ := hw a q
    rw [e] at e'; cases e'
    obtain ⟨arr, n, d⟩ := d
    exact n' arr n d) (fun hm => wr.not_of e (by rw [c]; decide) (List.mem_of_mem_drop hm)) (fun _ => notP_of wr.code e fun vs q => by obtain ⟨arr, n, d⟩ := d; rw [d] at q; cases q)

theorem EnvOK.ext {hT : TT} {κ : Kap} {ω : Str → Bool} {ρ : Rho} {W : List Addr} {env : Env} {b : Nat} {σ σ' : List Addr} {H : Hp} {h h' : Heap} (x : EnvOK κ ω ρ W env σ h) (wr : WR hT σ H h) (e : Ext xp [] b σ h σ' h') : EnvOK κ ω ρ W env σ' h' := by
  have tu := e.tups wr
  have keepD : ∀ a o, h.get? a = some o → (∀ arr n, o.data ≠ .seq arr n) → notP a → h'.get? a = some o := fun a o ea hd hp => e.keep a o ea (fun q => nomatch q) (fun hm => wr.not_of_data ea hd (List.mem_of_mem_drop hm)) fun _ => hp
  refine ⟨x.fn, x.kind, x.glob, x.blt, ?_, ?_, x.inj, x.own, x.loc, ?_, x.wp⟩
  · obtain ⟨m, ⟨o, es, ep, ho, hd, r⟩, hm⟩ := x.ns
    refine ⟨m, ⟨o, es, ep, keepD _ _ ho (by rw [hd]; intro _ _ q; cases q) (notP_of wr.code ho (by rw [hd]; intro _ q; cases q)), hd, r⟩, fun y v hk hy => ?_⟩
    obtain ⟨w, e1, e2⟩ := hm y v hk hy
    exact ⟨w, e1, e2.mono e.prefix tu⟩
  · intro y hy
    obtain ⟨c, v₀, hc, ⟨o, ho, hd⟩, hv⟩ := x.cell y hy
    refine ⟨c, v₀, hc, ⟨o, keepD _ _ ho (by rw [hd]; intro _ _ q; cases q) (notP_of wr.code ho (by rw [hd]; intro _ q; cases q)), hd⟩, fun v e1 => ?_⟩
    obtain ⟨w, e2, e3⟩ := hv v e1
    exact ⟨w, e2, e3.mono e.prefix tu⟩
  · intro a ha
    obtain ⟨o, ho, hd⟩ := x.wobj a ha
    exact ⟨o, keepD _ _ ho hd (x.wp a ha), hd⟩

theorem none_top {hT : TT} {h : Heap} (top : ∀ b o, hT.get? b = some o → h.get? b = some o) {r : Addr} (e : h.get? r = none) : hT.get? r = none := by
  cases q : hT.get? r with
  | none => rfl
  | some o => rw [top r o q] at e; cases e
theorem Good.step {hT : TT} {σ₀ : List Addr} {κ : Kap} {ω : Str → Bool} {ρ : Rho} {W : List Addr} {env : Env} {b : Nat} {σ σ' : List Addr} {H H' : Hp} {h h' : Heap} (x : Good hT σ₀ κ ω ρ W env b σ H h) (wr : WR hT σ' H' h') (e : Ext xp [] b σ h σ' h') : Good hT σ₀ κ ω ρ W env b σ' H' h' := by
  refine ⟨x.code, wr, x.env.ext x.wr e, ?_, ?_, x.wabove, x.tab.trans e.prefix⟩
  · obtain ⟨δ, rfl, _⟩ := e.pre
    have h1 := x.base
    rw [← x.wr.len] at h1
    rw [← wr.len, List.length_append]; lia
  · obtain ⟨δ, rfl, hδ⟩ := e.pre
    intro r hr
    rcases drop_append_sub hr with q | q
    · exact x.above r q
    · exact none_top x.wr.top (hδ r q)

theorem WR.keeps {hT : TT} {σ : List Addr} {H : Hp} {h h' : Heap} (x : WR hT σ H h) (k : ∀ a o, h.get? a = some o → h'.get? a = some o) : WR hT σ H h' :=
  ⟨x.len, fun a xs r h1 h2 => let ⟨arr, p, q, l⟩ := x.obj a xs r h1 h2; ⟨arr, p.at fun o' e => k _ _ e, q.mono (List.prefix_refl _) (Tups.keeps k), l⟩, x.nodup, fun b o' e => k _ _ (x.top b o' e), fun p hp => let ⟨ps, c⟩ := x.code p hp; ⟨ps, c.1.keeps k, c.2.keeps k⟩, x.ct⟩
theorem Ext.keeps {W : List Addr} {b : Nat} {σ : List Addr} {h h' : Heap} (k : ∀ a o, h.get? a = some o → h'.get? a = some o) : Ext xp W b σ h σ h' :=
  ⟨⟨[], (List.append_nil σ).symm, fun _ h => nomatch h⟩, fun _ o e => ⟨o, k _ _ e⟩, fun _ _ e _ _ _ => k _ _ e⟩
/-- the lists of inner codes may grow -/
theorem code_but {h h' : Heap} {r : Addr} (hc : ∀ p ∈ CPs, ∃ ps, IsCd h p ps) (kk : ∀ a o, h.get? a = some o → a ≠ r → h'.get? a = some o) (h1 : ∀ p ∈ CPs, p.1 ≠ r) (h2 : notP r) : ∀ p ∈ CPs, ∃ ps, IsCd h' p ps := fun p hp => by
  obtain ⟨ps, c, t⟩ := hc p hp
  exact ⟨ps, c.extBut (fun b o q e => kk b o e q) (h1 p hp) (Ne.symm (h2 p hp)), t.extBut (fun b o q e => kk b o e q) (h1 p hp) (Ne.symm (h2 p hp))⟩
/-- an object is pushed that is no list of the small heap -/
theorem WR.push {hT : TT} {σ : List Addr} {H : Hp} {h : Heap} (x : WR hT σ H h) (o : Obj) : WR hT σ H (h.push o) := x.keeps fun _ _ e => Heap.get?_push_of_some _ e
theorem get_size (h : Heap) : h.get? h.objs.size = none := by
  cases q : h.get? h.objs.size with
  | none => rfl
  | some o => exact absurd (Heap.lt_size q) (Nat.lt_irrefl _)
theorem Ext.push (W : List Addr) (b : Nat) (σ : List Addr) (h : Heap) (o : Obj) : Ext xp W b σ h σ (h.push o) := Ext.keeps fun _ _ e => Heap.get?_push_of_some _ e
/-- a list at a new place -/
theorem WR.newL {hT : TT} {σ : List Addr} {H : Hp} {h h' : Heap} {r : Addr} {xs : List V} {arr : Array Value} (x : WR hT σ H h) (k : ∀ a o, h.get? a = some o → h'.get? a = some o) (hr : h.get? r = none) (hp : h'.PlainList r arr) (hv : VRs σ h xs arr.toList) (hl : xs.length ≤ sizeLine) : WR hT (σ ++ [r]) (H ++ [xs]) h' := by
  have p : σ <+: σ ++ [r] := List.prefix_append _ _
  refine ⟨by simp [x.len], fun a ys q h1 h2 => ?_, ?_, fun b o' e => k _ _ (x.top b o' e), fun p hp => let ⟨ps, c⟩ := x.code p hp; ⟨ps, c.1.keeps k, c.2.keeps k⟩, x.ct⟩
  · rcases Nat.lt_trichotomy a H.length with ha | ha | ha
    · rw [List.getElem?_append_left ha] at h1
      rw [List.getElem?_append_left (by rw [x.len]; exact ha)] at h2
      obtain ⟨arr', p1, q, l⟩ := x.obj a ys q h1 h2
      exact ⟨arr', p1.at fun o' e => k _ _ e, q.mono p (Tups.keeps k), l⟩
    · subst ha
      rw [List.getElem?_append_right (Nat.le_refl _)] at h1
      rw [List.getElem?_append_right (by rw [x.len]; exact Nat.le_refl _)] at h2
      simp at h1
      simp [x.len] at h2
      subst h1 h2
      exact ⟨arr, hp, hv.mono p (Tups.keeps k), hl⟩
    · have : (H ++ [xs])[a]? = none := List.getElem?_eq_none (by simp; lia)
      rw [this] at h1; cases h1
  · rw [List.nodup_append]
    refine ⟨x.nodup, by simp, fun a ha c hc e => ?_⟩
    simp at hc
    obtain ⟨ar, n, e'⟩ := x.lists ha
    rw [e, hc, hr] at e'; cases e'
theorem Ext.newL {W : List Addr} {b : Nat} {σ : List Addr} {h h' : Heap} {r : Addr} (k : ∀ a o, h.get? a = some o → h'.get? a = some o) (hr : h.get? r = none) : Ext xp W b σ h (σ ++ [r]) h' :=
  ⟨⟨[r], rfl, by simp [hr]⟩, fun _ o e => ⟨o, k _ _ e⟩, fun _ _ e _ _ _ => k _ _ e⟩
/-- a list is pushed -/
theorem WR.pushL {hT : TT} {σ : List Addr} {H : Hp} {h : Heap} (x : WR hT σ H h) {xs : List V} {arr : Array Value} (n : Nat) (hv : VRs σ h xs arr.toList) (hl : xs.length ≤ sizeLine) :
    WR hT (σ ++ [h.objs.size]) (H ++ [xs]) (h.push { cls := .type "list", data := .seq arr n }) :=
  x.newL (fun _ _ e => Heap.get?_push_of_some _ e) (get_size h) ⟨n, Heap.get?_push_size _ rfl⟩ hv hl
theorem Ext.pushL (W : List Addr) (b : Nat) (σ : List Addr) (h : Heap) (o : Obj) : Ext xp W b σ h (σ ++ [h.objs.size]) (h.push o) := Ext.newL (fun _ _ e => Heap.get?_push_of_some _ e) (get_size h)

theorem nodup_inj {l : List Addr} (h : l.Nodup) {i j : Nat} (hi : i < l.length) (hj : j < l.length) (e : l[i] = l[j]) : i = j := by
  have p := List.pairwise_iff_getElem.mp h
  rcases Nat.lt_trichotomy i j with q | q | q
  · exact absurd e (p i j hi hj q)
  · exact q
  · exact absurd e.symm (p j i hj hi q)
theorem prefix_same (σ : List Addr) : σ <+: σ := ⟨[], by simp⟩

/-- a list of the small heap is changed -/
theorem WR.setL {hT : TT} {σ : List Addr} {H : Hp} {h h' : Heap} (x : WR hT σ H h) {a : Nat} {r : Addr} {xs : List V} {arr : Array Value} (hr : σ[a]? = some r) (hs : Heap.SameBut r h h') (hp : h'.PlainList r arr)
    (hv : VRs σ h xs arr.toList) (hl : xs.length ≤ sizeLine) (ht : hT.get? r = none) : WR hT σ (H.set a xs) h' := by
  have tu : Tups h h' := fun b o e c _ => by
    refine (hs.2 b fun q => ?_).trans e
    subst q
    exact x.not_of e (by rw [c]; decide) (List.mem_of_getElem? hr)
  have hrl : ∃ o, h.get? r = some o ∧ ∀ vs, o.data ≠ .fields vs := by
    obtain ⟨arr, n, e⟩ := x.lists (List.mem_of_getElem? hr)
    exact ⟨_, e, fun vs q => by cases q⟩
  obtain ⟨orr, er, dr⟩ := hrl
  have cc : ∀ p ∈ CPs, p.1 ≠ r := fun p hp q => by
    obtain ⟨ps, _, ⟨o1, vs, e1, _, d1, _⟩, _⟩ := x.code p hp
    rw [q, er] at e1; cases e1
    exact dr _ d1
  refine ⟨by simp [x.len], fun c ys q h1 h2 => ?_, x.nodup, fun b o e => ?_, code_but x.code (fun a o e q => (hs.2 a q).trans e) cc (notP_of x.code er dr), x.ct⟩
  · by_cases hc : c = a
    · subst hc
      rw [hr] at h2; cases h2
      have hlt : c < H.length := by rw [← x.len]; exact (List.getElem?_eq_some_iff.mp hr).1
      rw [List.getElem?_set_self hlt] at h1; cases h1
      exact ⟨arr, hp, hv.mono (prefix_same _) tu, hl⟩
    · rw [List.getElem?_set_ne (Ne.symm hc)] at h1
      obtain ⟨arr', p, w, l⟩ := x.obj c ys q h1 h2
      refine ⟨arr', p.at fun o e => (hs.2 q fun e' => hc ?_).trans e, w.mono (prefix_same _) tu, l⟩
      subst e'
      have h1 := List.getElem?_eq_some_iff.mp h2
      have h2 := List.getElem?_eq_some_iff.mp hr
      obtain ⟨i1, e1⟩ := h1
      obtain ⟨i2, e2⟩ := h2
      exact nodup_inj x.nodup i1 i2 (e1.trans e2.symm)
  · refine (hs.2 b fun q => ?_).trans (x.top b o e)
    subst q
    rw [ht] at e; cases e
theorem there_same {h h' : Heap} {r : Addr} {o₁ : Obj} (hs : Heap.SameBut r h h') (e₁ : h'.get? r = some o₁) : ∀ a o, h.get? a = some o → ∃ o', h'.get? a = some o' := fun a o e => by
  by_cases q : a = r
  · subst q; exact ⟨_, e₁⟩
  · exact ⟨o, (hs.2 a q).trans e⟩
theorem Ext.setL {W : List Addr} {b a : Nat} {σ : List Addr} {h h' : Heap} {r : Addr} {arr : Array Value} (hr : σ[a]? = some r) (hb : b ≤ a) (hs : Heap.SameBut r h h') (hp : h'.PlainList r arr) : Ext xp W b σ h σ h' :=
  ⟨⟨[], by simp, by simp⟩, there_same hs hp.choose_spec, fun c o e _ hd _ => (hs.2 c fun q => hd (by
    subst q
    rw [List.mem_iff_getElem?]
    exact ⟨a - b, by rw [List.getElem?_drop, show b + (a - b) = a by lia]; exact hr⟩)).trans e⟩
end
end Mine
end

section
set_option autoImplicit false
namespace Mine
open PySem PyProof.Rows

structure Room (A : Around) (n : Nat) : Prop where
  hh : A.handled = none
  hd : A.depth + n < 900
  hu : A.units + 10 * n + 300 < cLine

/-- what an expression hands on -/
noncomputable def Kont (xp : Bool) (hT : TT) (b : Nat) (σ : List Addr) (v : V) (H' : Hp) (Q : Value → Shared → Prop) (s : Shared) : Prop :=
  ∀ w h' tk σ', WR hT σ' H' h' → VR σ' h' v w → Ext xp [] b σ s.heap σ' h' → Q w { s with heap := h', toks := tk }

section
variable {xp : Bool} {prog : Program} {w : World} {A : Around} {E : Value → Shared → Prop} {s : Shared} {hT : TT} {b : Nat} {σ : List Addr} {H : Hp} {Q : Value → Shared → Prop}

/-- nothing new: the heap as it was -/
theorem Kont.same {v : V} {wv : Value} (k : Kont xp hT b σ v H Q s) (wr : WR hT σ H s.heap) (hv : VR σ s.heap v wv) (tk : Nat) : Q wv { s with toks := tk } :=
  k wv s.heap tk σ wr hv (Ext.refl ..)
theorem Kont.same' {v : V} {wv : Value} (k : Kont xp hT b σ v H Q s) (wr : WR hT σ H s.heap) (hv : VR σ s.heap v wv) : Q wv s :=
  k.same wr hv s.toks

theorem sizeLine_val : sizeLine = 16777216 := rfl

theorem arr_of {σ : List Addr} {h : Heap} {xs : List V} {arr : Array Value} (hv : VRs σ h xs arr.toList) : arr.size = xs.length := by
  rw [hv.length, Array.length_toList]

theorem int2_eq {α : Type} {f : Int → Int → Option α} {x y : V} {r : α} (e : int2 f x y = some r) : ∃ a b, x = .int a ∧ y = .int b ∧ f a b = some r := by
  cases x
  case int a =>
    cases y
    case int b => exact ⟨a, b, rfl, rfl, e⟩
    all_goals exact nn e
  all_goals exact nn e
theorem ref2_eq {α : Type} {f : Nat → Nat → Option α} {x y : V} {r : α} (e : ref2 f x y = some r) : ∃ a b, x = .ref a ∧ y = .ref b ∧ f a b = some r := by
  cases x
  case ref a =>
    cases y
    case ref b => exact ⟨a, b, rfl, rfl, e⟩
    all_goals exact nn e
  all_goals exact nn e
theorem bind_eq {α β : Type} {x : Option α} {f : α → Option β} {b : β} (e : x.bind f = some b) : ∃ a, x = some a ∧ f a = some b := by
  cases x with
  | none => exact nn e
  | some a => exact ⟨a, rfl, e⟩
theorem map_eq {α β : Type} {x : Option α} {f : α → β} {b : β} (e : x.map f = some b) : ∃ a, x = some a ∧ f a = b := by
  cases x with
  | none => exact nn e
  | some a => exact ⟨a, rfl, Option.some.inj e⟩
theorem ite_eq {α : Type} {c : Prop} [Decidable c] {x : Option α} {b : α} (e : (if c then x else none) = some b) : c ∧ x = some b := by
  by_cases h : c
  · rw [if_pos h] at e; exact ⟨h, e⟩
  · rw [if_neg h] at e; exact nn e
theorem addV_ok {x y v : V} {wx wy : Value} {H' : Hp} (he : addV x y H = some (v, H')) (hx : VR σ s.heap x wx) (hy : VR σ s.heap y wy) (wr : WR hT σ H s.heap)
    (k : Kont xp hT b σ v H' Q s) : wpAny (model prog w) A (binaryOp .Add wx wy) Q E s := by
  have i : int2 (fun a b => some (V.int (a + b), H)) x y = some (v, H') → wpAny (model prog w) A (binaryOp .Add wx wy) Q E s := fun e => by
    obtain ⟨p, q, rfl, rfl, e⟩ := int2_eq e
    obtain ⟨t, rfl⟩ := hx.int_inv
    obtain ⟨u, rfl⟩ := hy.int_inv
    cases e; exact PyProof.Rows.add_int (k.same wr (.int _ _) _)
  cases x
  case ref a =>
    delta addV at he
    obtain ⟨a, c, e0, rfl, e⟩ := ref2_eq he
    cases e0
    obtain ⟨xs, h1, e⟩ := bind_eq e
    obtain ⟨ys, h2, e⟩ := bind_eq e
    obtain ⟨hl, e⟩ := ite_eq e
    cases e
    obtain ⟨ra, rfl, ha⟩ := hx.ref_inv
    obtain ⟨rc, rfl, hc⟩ := hy.ref_inv
    obtain ⟨ax, ⟨nx, px⟩, vx, _⟩ := wr.obj _ xs ra h1 ha
    obtain ⟨ay, ⟨ny, py⟩, vy, _⟩ := wr.obj c ys rc h2 hc
    have hs : ax.size + ay.size ≤ sizeLine := by rw [arr_of vx, arr_of vy]; exact hl
    refine P.add_list px py ?_ hs
    have hv : VRs σ s.heap (xs ++ ys) (ax ++ ay).toList := by rw [Array.toList_append]; exact vx.append vy
    exact k _ _ s.toks _ (wr.pushL 0 hv (by rw [List.length_append]; exact hl)) (.ref (by rw [← wr.len]; simp)) (Ext.pushL ..)
  all_goals exact i he
theorem binop_ok {op : Operator} {x y v : V} {wx wy : Value} {H' : Hp} (he : binop op x y H = some (v, H')) (hx : VR σ s.heap x wx) (hy : VR σ s.heap y wy) (wr : WR hT σ H s.heap)
    (k : Kont xp hT b σ v H' Q s) : wpAny (model prog w) A (binaryOp op wx wy) Q E s := by
  have i : ∀ {f : Int → Int → Option (V × Hp)}, int2 f x y = some (v, H') → (∀ p q t u, f p q = some (v, H') → wpAny (model prog w) A (binaryOp op (.int p t) (.int q u)) Q E s) → wpAny (model prog w) A (binaryOp op wx wy) Q E s := fun e m => by
    obtain ⟨p, q, rfl, rfl, e⟩ := int2_eq e
    obtain ⟨t, rfl⟩ := hx.int_inv
    obtain ⟨u, rfl⟩ := hy.int_inv
    exact m p q t u e
  cases op
  case Add => exact addV_ok he hx hy wr k
  case Sub => exact i he fun p q t u e => by cases e; exact PyProof.Rows.sub_int (k.same wr (.int _ _) _)
  case Mult =>
    exact i he fun p q t u e => by
      obtain ⟨hc, e⟩ := ite_eq e
      cases e; exact PyProof.Rows.mul_int (k.same wr (.int _ _) _) (IntMulOk.of_left hc)
  case Mod =>
    exact i he fun p q t u e => by
      by_cases hc : q = 0
      · rw [if_pos hc] at e; exact nn e
      · rw [if_neg hc] at e; cases e; exact PyProof.Rows.mod_int hc (k.same wr (.int _ _) _)
  case FloorDiv =>
    exact i he fun p q t u e => by
      obtain ⟨hc, e⟩ := ite_eq e
      cases e; exact PyProof.Rows.floordiv_int hc.1 (k.same wr (.int _ _) _) (.inl (PyProof.noPylong_small hc.2))
  all_goals exact nn he

theorem truthV_ok {v : V} {t : Bool} {wv : Value} {Q : Bool → Shared → Prop} (he : truthV v = some t) (hv : VR σ s.heap v wv) (k : Q t s) : wpAny (model prog w) A (truthy wv) Q E s := by
  cases v
  case bool c => cases he; rw [hv.bool_inv]; exact wpAny_truthy_bool k
  all_goals exact nn he

theorem unop_ok {op : UnaryOp} {x v : V} {wx : Value} (he : unop op x = some v) (hx : VR σ s.heap x wx) (wr : WR hT σ H s.heap) (k : Kont xp hT b σ v H Q s) : wpAny (model prog w) A (unaryOp op wx) Q E s := by
  cases op
  case USub =>
    cases x
    case int a => cases he; obtain ⟨t, rfl⟩ := hx.int_inv; exact PyProof.Rows.neg_int (k.same wr (.int _ _) _)
    all_goals exact nn he
  case Not =>
    cases x
    case bool a => cases he; rw [hx.bool_inv]; exact PyProof.Rows.not_of (wpAny_truthy_bool (k.same' wr (.bool _)))
    all_goals exact nn he
  all_goals exact nn he

/-! reading -/
theorem rdAll_cons {f : V → Option PyData} {v : V} {vs : List V} {ds : List PyData} (e : rdAll f (v :: vs) = some ds) : ∃ d r, ds = d :: r ∧ f v = some d ∧ rdAll f vs = some r := by
  obtain ⟨d, h1, e⟩ := bind_eq e
  obtain ⟨r, h2, e⟩ := map_eq e
  exact ⟨d, r, e.symm, h1, h2⟩

theorem reads_all {h : Heap} {f : V → Option PyData} (hf : ∀ v d wv, f v = some d → VR σ h v wv → ∃ as, Reads h wv d as)
    {vs : List V} {ws : List Value} {ds : List PyData} (x : VRs σ h vs ws) : rdAll f vs = some ds → ∃ as, ReadsAll h ws ds as :=
  x.ind (motive := fun vs ws => ∀ ds, rdAll f vs = some ds → ∃ as, ReadsAll h ws ds as) (fun ds e => by cases e; exact ⟨_, .nil⟩) (fun v vs w ws a _ ih ds e => by
    obtain ⟨d, q, rfl, e1, e2⟩ := rdAll_cons e
    obtain ⟨as, a⟩ := hf _ _ _ e1 a
    obtain ⟨bs, c⟩ := ih _ e2
    exact ⟨_, .cons a c⟩) ds

theorem rdF_reads {h : Heap} (wr : WR hT σ H h) {f : List V → Option (List PyData)} (hf : ∀ vs ds ws, f vs = some ds → VRs σ h vs ws → ∃ as, ReadsAll h ws ds as) {v : V} {d : PyData} {wv : Value} (e : rdF f H v = some d) (x : VR σ h v wv) : ∃ as, Reads h wv d as := by
  cases v
  case none => cases e; rw [x.none_inv]; exact ⟨_, .none⟩
  case bool b => cases e; rw [x.bool_inv]; exact ⟨_, .bool b⟩
  case int i => cases e; obtain ⟨t, rfl⟩ := x.int_inv; exact ⟨_, .int i t⟩
  case str s => obtain ⟨_, e⟩ := ite_eq e; cases e; obtain ⟨t, rfl, _⟩ := x.str_inv; exact ⟨_, .str s t⟩
  case tup vs =>
    obtain ⟨ds, h5, rfl⟩ := map_eq e
    obtain ⟨r, o, arr, n, rfl, h1, h2, h3, h4, _⟩ := x.tup_inv
    obtain ⟨as, q⟩ := hf _ _ _ h5 h4
    exact ⟨_, .tuple h1 h2 h3 q⟩
  case ref a =>
    obtain ⟨vs, h0, e⟩ := bind_eq e
    obtain ⟨ds, h5, rfl⟩ := map_eq e
    obtain ⟨r, rfl, ha⟩ := x.ref_inv
    obtain ⟨arr, ⟨m, p⟩, vx, _⟩ := wr.obj a vs _ h0 ha
    obtain ⟨as, q⟩ := hf _ _ _ h5 vx
    exact ⟨_, .list p rfl rfl q⟩
theorem rd_reads {h : Heap} (wr : WR hT σ H h) (n : Nat) : ∀ (v : V) (d : PyData) (wv : Value), rd n H v = some d → VR σ h v wv → ∃ as, Reads h wv d as := by
  induction n with
  | zero => exact fun v d wv e x => rdF_reads wr (fun _ _ _ e _ => nn e) e x
  | succ n ih => exact fun v d wv e x => rdF_reads wr (fun _ _ _ e x => reads_all ih x e) e x

theorem rdAll_can {f : V → Option PyData} {n : Nat} (hf : ∀ v d, f v = some d → d.canLay0 = true ∧ d.depth ≤ n) {vs : List V} : ∀ {ds : List PyData}, rdAll f vs = some ds → PyData.canLayAll0 ds = true ∧ PyData.depthAll ds ≤ n := by
  induction vs with
  | nil => intro ds e; cases e; exact ⟨rfl, Nat.zero_le _⟩
  | cons v vs ih =>
    intro ds e
    obtain ⟨d, q, rfl, e1, e2⟩ := rdAll_cons e
    have h1 := hf _ _ e1
    have h2 := ih e2
    exact ⟨Bool.and_eq_true_iff.mpr ⟨h1.1, h2.1⟩, Nat.max_le.mpr ⟨h1.2, h2.2⟩⟩
theorem rdF_can {f : List V → Option (List PyData)} {m : Nat} (hf : ∀ vs ds, f vs = some ds → PyData.canLayAll0 ds = true ∧ PyData.depthAll ds + 1 ≤ m) {v : V} {d : PyData} (e : rdF f H v = some d) : d.canLay0 = true ∧ d.depth ≤ m := by
  cases v
  case none => cases e; exact ⟨rfl, Nat.zero_le _⟩
  case bool b => cases e; exact ⟨rfl, Nat.zero_le _⟩
  case int i => cases e; exact ⟨rfl, Nat.zero_le _⟩
  case str s => obtain ⟨h, e⟩ := ite_eq e; cases e; exact ⟨h, Nat.zero_le _⟩
  case tup vs =>
    obtain ⟨ds, h5, rfl⟩ := map_eq e
    exact ⟨(hf _ _ h5).1, (hf _ _ h5).2⟩
  case ref a =>
    obtain ⟨vs, h0, e⟩ := bind_eq e
    obtain ⟨ds, h5, rfl⟩ := map_eq e
    exact ⟨(hf _ _ h5).1, (hf _ _ h5).2⟩
theorem rd_can (n : Nat) : ∀ (v : V) (d : PyData), rd n H v = some d → d.canLay0 = true ∧ d.depth ≤ n := by
  induction n with
  | zero => exact fun v d e => rdF_can (fun _ _ e => nn e) e
  | succ n ih => exact fun v d e => rdF_can (fun _ _ e => ⟨(rdAll_can ih e).1, Nat.succ_le_succ (rdAll_can ih e).2⟩) e
end
end Mine
end

section
set_option autoImplicit false
namespace Mine
open PySem PyProof.Rows
section
variable {xp : Bool} {prog : Program} {w : World} {A : Around} {E : Value → Shared → Prop} {s : Shared} {hT : TT} {b : Nat} {σ : List Addr} {H : Hp} {Q : Value → Shared → Prop}

theorem room_small {r m : Nat} (room : Room A r) (hm : m ≤ 8) : A.units + 1 + m < cLine := by
  have := room.hu
  lia
theorem eqV_reads {n m : Nat} {x y : V} {d e : PyData} {wx wy : Value} (hd : rd n H x = some d) (he : rd m H y = some e) (hn : n ≤ 8) (hx : VR σ s.heap x wx) (hy : VR σ s.heap y wy) (wr : WR hT σ H s.heap) {r : Nat} (room : Room A r)
    (k : Q (.bool (PyData.eqv d e)) s) : wpAny (model prog w) A (compareOp .Eq wx wy) Q E s := by
  obtain ⟨as, ra⟩ := rd_reads wr _ _ _ _ hd hx
  obtain ⟨bs, rb⟩ := rd_reads wr _ _ _ _ he hy
  have c1 := rd_can _ _ _ hd
  have c2 := rd_can _ _ _ he
  refine SeqAt.compareEq_reads ra rb c1.1 c2.1 ?_ k
  exact Nat.lt_of_le_of_lt (Nat.add_le_add_right (Nat.le_succ _) _) (room_small room (Nat.le_trans (Nat.min_le_left _ _) (Nat.le_trans c1.2 hn)))
theorem neV_reads {n m : Nat} {x y : V} {d e : PyData} {wx wy : Value} (hd : rd n H x = some d) (he : rd m H y = some e) (hn : n ≤ 8) (hx : VR σ s.heap x wx) (hy : VR σ s.heap y wy) (wr : WR hT σ H s.heap) {r : Nat} (room : Room A r)
    (k : Q (.bool (!PyData.eqv d e)) s) : wpAny (model prog w) A (compareOp .NotEq wx wy) Q E s := by
  obtain ⟨as, ra⟩ := rd_reads wr _ _ _ _ hd hx
  obtain ⟨bs, rb⟩ := rd_reads wr _ _ _ _ he hy
  have c1 := rd_can _ _ _ hd
  have c2 := rd_can _ _ _ he
  refine SeqAt.compareNe_reads ra rb c1.1 c2.1 ?_ k
  exact Nat.lt_of_le_of_lt (Nat.add_le_add_right (Nat.le_succ _) _) (room_small room (Nat.le_trans (Nat.min_le_left _ _) (Nat.le_trans c1.2 hn)))

theorem eqR_eq {x y : V} {c : Bool} (he : eqR H x y = some c) : ∃ d e, rd 8 H x = some d ∧ rd 8 H y = some e ∧ c = PyData.eqv d e := by
  obtain ⟨d, h1, he⟩ := bind_eq he
  obtain ⟨e, h2, he⟩ := map_eq he
  exact ⟨d, e, h1, h2, he.symm⟩
theorem eqV_eq {x y : V} {c : Bool} (he : eqV H x y = some c) : eqR H x y = some c ∨ (∃ a b, x = .int a ∧ y = .int b ∧ c = (a == b)) ∨ (∃ a b, x = .str a ∧ y = .str b ∧ c = (a == b)) ∨ (∃ a b, x = .bool a ∧ y = .bool b ∧ c = (a == b)) := by
  cases x
  case int a =>
    cases y
    case int b => cases he; exact .inr (.inl ⟨a, b, rfl, rfl, rfl⟩)
    all_goals exact .inl he
  case str a =>
    cases y
    case str b => cases he; exact .inr (.inr (.inl ⟨a, b, rfl, rfl, rfl⟩))
    all_goals exact .inl he
  case bool a =>
    cases y
    case bool b => cases he; exact .inr (.inr (.inr ⟨a, b, rfl, rfl, rfl⟩))
    all_goals exact .inl he
  all_goals exact .inl he
theorem eqV_ok {x y : V} {c : Bool} {wx wy : Value} (he : eqV H x y = some c) (hx : VR σ s.heap x wx) (hy : VR σ s.heap y wy) (wr : WR hT σ H s.heap) {r : Nat} (room : Room A r)
    (k : Q (.bool c) s) : wpAny (model prog w) A (compareOp .Eq wx wy) Q E s := by
  rcases eqV_eq he with he | ⟨a, b, rfl, rfl, rfl⟩ | ⟨a, b, rfl, rfl, rfl⟩ | ⟨a, b, rfl, rfl, rfl⟩
  · obtain ⟨d, e, h1, h2, rfl⟩ := eqR_eq he
    exact eqV_reads h1 h2 (by decide) hx hy wr room k
  · obtain ⟨t, rfl⟩ := hx.int_inv
    obtain ⟨u, rfl⟩ := hy.int_inv
    exact PyProof.Rows.eq_int k
  · obtain ⟨t, rfl, _⟩ := hx.str_inv
    obtain ⟨u, rfl, _⟩ := hy.str_inv
    exact PyProof.Rows.eq_str k
  · rw [hx.bool_inv, hy.bool_inv]
    exact PyProof.Rows.eq_bool k
theorem neV_ok {x y : V} {c : Bool} {wx wy : Value} (he : eqV H x y = some c) (hx : VR σ s.heap x wx) (hy : VR σ s.heap y wy) (wr : WR hT σ H s.heap) {r : Nat} (room : Room A r)
    (k : Q (.bool (!c)) s) : wpAny (model prog w) A (compareOp .NotEq wx wy) Q E s := by
  rcases eqV_eq he with he | ⟨a, b, rfl, rfl, rfl⟩ | ⟨a, b, rfl, rfl, rfl⟩ | ⟨a, b, rfl, rfl, rfl⟩
  · obtain ⟨d, e, h1, h2, rfl⟩ := eqR_eq he
    exact neV_reads h1 h2 (by decide) hx hy wr room k
  · obtain ⟨t, rfl⟩ := hx.int_inv
    obtain ⟨u, rfl⟩ := hy.int_inv
    exact PyProof.Rows.ne_int k
  · obtain ⟨t, rfl, _⟩ := hx.str_inv
    obtain ⟨u, rfl, _⟩ := hy.str_inv
    exact PyProof.Rows.ne_str k
  · rw [hx.bool_inv, hy.bool_inv]
    exact PyProof.Rows.ne_bool k

theorem rdsL {n : Nat} {vs : List V} {ds : List PyData} {a : Nat} {r : Addr} (h0 : H[a]? = some vs) (ha : σ[a]? = some r) (h5 : rdAll (rd n H) vs = some ds) (wr : WR hT σ H s.heap) : ∃ as, Reads s.heap (.ref r) (.list ds) as := by
  refine rd_reads wr (n + 1) (.ref a) _ _ ?_ (.ref ha)
  show (H[a]?).bind (fun vs => (rdAll (rd n H) vs).map PyData.list) = _
  rw [h0, Option.bind_some, h5]; rfl
theorem rdsT {n : Nat} {vs : List V} {ds : List PyData} {wc : Value} (hc : VR σ s.heap (.tup vs) wc) (h5 : rdAll (rd n H) vs = some ds) (wr : WR hT σ H s.heap) : ∃ as, Reads s.heap wc (.tuple ds) as := by
  refine rd_reads wr (n + 1) (.tup vs) _ _ ?_ hc
  show (rdAll (rd n H) vs).map PyData.tuple = _
  rw [h5]; rfl

theorem inV_cases {x c : V} {t : Bool} (he : inV H x c = some t) : (∃ z y, c = .str z ∧ x = .str y ∧ t = Txt.contains z y) ∨
    (∃ vs d ds, c = .tup vs ∧ rd 8 H x = some d ∧ rdAll (rd 8 H) vs = some ds ∧ t = ds.any fun y => PyData.eqv y d) ∨
    (∃ a vs d ds, c = .ref a ∧ H[a]? = some vs ∧ rd 8 H x = some d ∧ rdAll (rd 8 H) vs = some ds ∧ t = ds.any fun y => PyData.eqv y d) := by
  cases c
  case str z =>
    cases x
    case str y => cases he; exact .inl ⟨_, _, rfl, rfl, rfl⟩
    all_goals exact nn he
  case tup vs =>
    obtain ⟨d, h1, he⟩ := bind_eq he
    obtain ⟨e, h2, he⟩ := map_eq he
    exact .inr (.inl ⟨vs, d, e, rfl, h1, h2, he.symm⟩)
  case ref a =>
    obtain ⟨vs, h0, he⟩ := bind_eq he
    obtain ⟨d, h1, he⟩ := bind_eq he
    obtain ⟨e, h2, he⟩ := map_eq he
    exact .inr (.inr ⟨a, vs, d, e, rfl, h0, h1, h2, he.symm⟩)
  all_goals exact nn he

theorem inV_ok {x c : V} {t : Bool} {wx wc : Value} (he : inV H x c = some t) (hx : VR σ s.heap x wx) (hc : VR σ s.heap c wc) (wr : WR hT σ H s.heap) {r : Nat} (room : Room A r)
    (k : Q (.bool t) s) : wpAny (model prog w) A (compareOp .In wx wc) Q E s := by
  rcases inV_cases he with ⟨z, y, rfl, rfl, rfl⟩ | ⟨vs, d, ds, rfl, h1, h2, rfl⟩ | ⟨a, vs, d, ds, rfl, h0, h1, h2, rfl⟩
  · obtain ⟨t, rfl, _⟩ := hx.str_inv
    obtain ⟨u, rfl, _⟩ := hc.str_inv
    exact PyProof.Rows.in_str k
  · obtain ⟨as, ra⟩ := rd_reads wr _ _ _ _ h1 hx
    obtain ⟨bs, rb⟩ := rdsT hc h2 wr
    have c1 := rd_can _ _ _ h1
    have c2 := rdAll_can (rd_can 8) h2
    refine SeqAt.in_tuple_reads rb ra c2.1 c1.1 ?_ k
    exact room_small room (Nat.le_trans (Nat.min_le_right _ _) c1.2)
  · obtain ⟨r, rfl, ha⟩ := hc.ref_inv
    obtain ⟨as, ra⟩ := rd_reads wr _ _ _ _ h1 hx
    obtain ⟨bs, rb⟩ := rdsL h0 ha h2 wr
    have c1 := rd_can _ _ _ h1
    have c2 := rdAll_can (rd_can 8) h2
    refine SeqAt.in_list_reads rb ra c2.1 c1.1 ?_ k
    exact room_small room (Nat.le_trans (Nat.min_le_right _ _) c1.2)
theorem ninV_ok {x c : V} {t : Bool} {wx wc : Value} (he : inV H x c = some t) (hx : VR σ s.heap x wx) (hc : VR σ s.heap c wc) (wr : WR hT σ H s.heap) {r : Nat} (room : Room A r)
    (k : Q (.bool (!t)) s) : wpAny (model prog w) A (compareOp .NotIn wx wc) Q E s := by
  rcases inV_cases he with ⟨z, y, rfl, rfl, rfl⟩ | ⟨vs, d, ds, rfl, h1, h2, rfl⟩ | ⟨a, vs, d, ds, rfl, h0, h1, h2, rfl⟩
  · obtain ⟨t, rfl, _⟩ := hx.str_inv
    obtain ⟨u, rfl, _⟩ := hc.str_inv
    exact PyProof.Rows.notIn_str k
  · obtain ⟨as, ra⟩ := rd_reads wr _ _ _ _ h1 hx
    obtain ⟨bs, rb⟩ := rdsT hc h2 wr
    have c1 := rd_can _ _ _ h1
    have c2 := rdAll_can (rd_can 8) h2
    refine SeqAt.notIn_tuple_reads rb ra c2.1 c1.1 ?_ k
    exact room_small room (Nat.le_trans (Nat.min_le_right _ _) c1.2)
  · obtain ⟨r, rfl, ha⟩ := hc.ref_inv
    obtain ⟨as, ra⟩ := rd_reads wr _ _ _ _ h1 hx
    obtain ⟨bs, rb⟩ := rdsL h0 ha h2 wr
    have c1 := rd_can _ _ _ h1
    have c2 := rdAll_can (rd_can 8) h2
    refine SeqAt.notIn_list_reads rb ra c2.1 c1.1 ?_ k
    exact room_small room (Nat.le_trans (Nat.min_le_right _ _) c1.2)

theorem cmpop_ok {op : CmpOp} {x y : V} {c : Bool} {wx wy : Value} (he : cmpop op x y H = some c) (hx : VR σ s.heap x wx) (hy : VR σ s.heap y wy) (wr : WR hT σ H s.heap) {r : Nat} (room : Room A r)
    (k : Q (.bool c) s) : wpAny (model prog w) A (compareOp op wx wy) Q E s := by
  have i : ∀ {f : Int → Int → Option Bool}, int2 f x y = some c → (∀ p q t u, f p q = some c → wpAny (model prog w) A (compareOp op (.int p t) (.int q u)) Q E s) → wpAny (model prog w) A (compareOp op wx wy) Q E s := fun e m => by
    obtain ⟨p, q, rfl, rfl, e⟩ := int2_eq e
    obtain ⟨t, rfl⟩ := hx.int_inv
    obtain ⟨u, rfl⟩ := hy.int_inv
    exact m p q t u e
  have bo : ∀ {f : Bool → Bool → Bool}, bool2 f x y = some c → (∀ p q, f p q = c → wpAny (model prog w) A (compareOp op (.bool p) (.bool q)) Q E s) → wpAny (model prog w) A (compareOp op wx wy) Q E s := fun e m => by
    cases x
    case bool p =>
      cases y
      case bool q =>
        rw [hx.bool_inv, hy.bool_inv]
        exact m p q (Option.some.inj e)
      all_goals exact nn e
    all_goals exact nn e
  cases op
  case Eq => exact eqV_ok he hx hy wr room k
  case NotEq =>
    obtain ⟨d, h1, rfl⟩ := map_eq he
    exact neV_ok h1 hx hy wr room k
  case Lt => exact i he fun p q t u e => by cases e; exact PyProof.Rows.lt_int k
  case LtE => exact i he fun p q t u e => by cases e; exact PyProof.Rows.le_int k
  case Gt => exact i he fun p q t u e => by cases e; exact PyProof.Rows.gt_int k
  case GtE => exact i he fun p q t u e => by cases e; exact PyProof.Rows.ge_int k
  case Is => exact bo he fun p q e => by cases e; exact PyProof.Rows.is_bool k
  case IsNot => exact bo he fun p q e => by cases e; exact PyProof.Rows.isnot_bool k
  case In => exact inV_ok he hx hy wr room k
  case NotIn =>
    obtain ⟨d, h1, rfl⟩ := map_eq he
    exact ninV_ok h1 hx hy wr room k
end
end Mine
end

section
set_option autoImplicit false
namespace Mine
open PySem PyProof.Rows
section
variable {xp : Bool} {prog : Program} {w : World} {A : Around} {E : Value → Shared → Prop} {s : Shared} {hT : TT} {b : Nat} {σ : List Addr} {H : Hp} {Q : Value → Shared → Prop}

theorem subscripted_op (sl : Expr) (o i : Value) : ∃ ops, subscripted sl false o i = operate ops (getItem o i) := by
  cases sl
  case Slice l u st p => cases st <;> exact ⟨_, rfl⟩
  all_goals exact ⟨_, rfl⟩

theorem tail_ok {value sl : Expr} {o i : Value} {T id : String} (hT' : s.TypeIs o T) (hl : typeLookup (.type T) "__getitem__" = pure (some (.builtin id))) (hg : wpAny (model prog w) A (getItem o i) Q E s) :
    wpAny (model prog w) A (subscriptTail value sl o i) Q E s :=
  let ⟨_, e⟩ := subscripted_op sl o i
  tail_any hT' hl hg e

theorem seqIndex_cases {k : Int} {n j : Nat} (h : seqIndex? k n = some j) : (0 ≤ k ∧ k < n ∧ j = k.toNat) ∨ (k < 0 ∧ -(n : Int) ≤ k ∧ j = (k + n).toNat) := by
  by_cases h0 : k < 0
  · simp only [seqIndex?, h0, if_true] at h
    split at h
    · rename_i hc
      simp only [Bool.and_eq_true, decide_eq_true_eq] at hc
      exact .inr ⟨h0, by lia, (Option.some.inj h).symm⟩
    · cases h
  · simp only [seqIndex?, h0, if_false] at h
    split at h
    · rename_i hc
      simp only [Bool.and_eq_true, decide_eq_true_eq] at hc
      exact .inl ⟨by lia, by lia, (Option.some.inj h).symm⟩
    · cases h

theorem seqIndex_small {k : Int} {n j : Nat} (h : seqIndex? k n = some j) (hn : n ≤ 16777216) : -(2 ^ 63) ≤ k ∧ k < 2 ^ 63 := by
  rcases seqIndex_cases h with ⟨h0, h2, _⟩ | ⟨h0, h2, _⟩ <;> lia
theorem getItem_listV {r : Addr} {arr : Array Value} {xs : List V} {k : Int} {t : Tok} {j : Nat} {v : V} (p : s.heap.PlainList r arr) (vx : VRs σ s.heap xs arr.toList) (hl : xs.length ≤ sizeLine)
    (hj : seqIndex? k xs.length = some j) (hv : xs[j]? = some v) (h : ∀ wv, VR σ s.heap v wv → Q wv s) : wpAny (model prog w) A (getItem (.ref r) (.int k t)) Q E s := by
  obtain ⟨wv, e1, e2⟩ := vx.get hv
  have hs := arr_of vx
  have e3 : arr[j]? = some wv := by rw [← Array.getElem?_toList]; exact e1
  rw [sizeLine_val] at hl
  rcases seqIndex_cases hj with ⟨h0, h1, rfl⟩ | ⟨h0, h1, rfl⟩
  · exact wpAny_getItem_list p.isList h0 (by lia) e3 (h wv e2)
  · exact wpAny_getItem_list_neg p.isList h0 (by lia) (by lia) (by rw [hs]; exact e3) (h wv e2)

theorem idx_ok {o i v : V} {wo wi : Value} {value sl : Expr} (he : idx o i H = some v) (ho : VR σ s.heap o wo) (hi : VR σ s.heap i wi) (wr : WR hT σ H s.heap) (k : Kont xp hT b σ v H Q s) :
    wpAny (model prog w) A (subscriptTail value sl wo wi) Q E s := by
  cases i
  case int q =>
    obtain ⟨t, rfl⟩ := hi.int_inv
    cases o
    case str z =>
      obtain ⟨c, h1, rfl⟩ := map_eq he
      obtain ⟨u, rfl, hl⟩ := ho.str_inv
      rw [sizeLine_val] at hl
      obtain ⟨j, hj, _⟩ := bind_eq h1
      refine tail_ok (typeIs_str s _ _) slot_str_getitem.lookup (PyProof.Rows.getItem_str ?_ h1 (k.same wr (.str _ _ (by show (1 : Nat) ≤ _; decide)) _))
      have hq := seqIndex_small hj hl
      rw [decide_eq_false (Int.not_lt.mpr hq.1), decide_eq_false (Int.not_le.mpr hq.2)]; rfl
    case tup vs =>
      obtain ⟨r, o, arr, n, rfl, h1, h2, h3, h4, hl⟩ := ho.tup_inv
      rw [sizeLine_val] at hl
      obtain ⟨j, hj, hv⟩ := bind_eq he
      obtain ⟨wv, e1, e2⟩ := h4.get hv
      have hs := arr_of h4
      have ht : IsTup s.heap _ _ := ⟨_, h1, h2, _, h3⟩
      have hq := seqIndex_small hj hl
      exact tail_ok ht.typeIs slot_tuple_getitem.lookup (PyProof.Rows.getItem_tuple ht hq.1 hq.2 (by rw [hs]; exact hj) (by rw [← Array.getElem?_toList]; exact e1) (k.same' wr e2))
    case ref a =>
      obtain ⟨xs, h0, he⟩ := bind_eq he
      obtain ⟨r, rfl, ha⟩ := ho.ref_inv
      obtain ⟨j, hj, hv⟩ := bind_eq he
      obtain ⟨arr, p, vx, hl⟩ := wr.obj a xs _ h0 ha
      exact tail_ok p.isList.typeIs slot_list_getitem.lookup (getItem_listV p vx hl hj hv fun wv e => k.same' wr e)
    all_goals exact nn he
  all_goals exact nn he

/-! slices -/
theorem partV_ok {v : V} {lo : Option Int} {wv : Value} {h : Heap} (he : partV v = some lo) (hv : VR σ h v wv) : IsPart wv lo ∧ ∃ p : Option (Int × Tok), wv = partValue p ∧ p.map (·.1) = lo := by
  cases v
  case none => cases he; rw [hv.none_inv]; exact ⟨.none, none, rfl, rfl⟩
  case int i => cases he; obtain ⟨t, rfl⟩ := hv.int_inv; exact ⟨.int _ t, some (_, t), rfl, rfl⟩
  all_goals exact nn he

theorem strIdx_plain (lo hi : Option Int) (n : Nat) : Builtin.Str.strSliceIndices lo hi 1 n = (List.range (hi.elim n (clipAt n) - lo.elim 0 (clipAt n))).map (lo.elim 0 (clipAt n) + ·) := by
  have e : Builtin.Str.strSliceIndices lo hi 1 n = sliceRange (sliceBounds lo hi none n).1 (sliceBounds lo hi none n).2.1 1 := by
    cases lo <;> cases hi <;> rfl
  rw [e, sliceBounds_plain, sliceRange_one]

theorem cutL_length {α : Type} (xs : List α) (lo hi : Option Int) : (cutL xs lo hi).length ≤ xs.length := by
  unfold cutL
  rw [List.length_take, List.length_drop]; lia

theorem clipAt_le (n : Nat) (i : Int) : clipAt n i ≤ n := by
  unfold clipAt; lia

theorem pick_str (x : Str) (lo hi : Option Int) : (Builtin.Str.strSliceIndices lo hi 1 x.length).filterMap (x.cps[·]?) = cutL x.cps.toList lo hi := by
  rw [strIdx_plain, pick_run]
  unfold cutL
  simp [Str.length]
theorem pick_whole (x : Str) (lo hi : Option Int) (h : (Builtin.Str.strSliceIndices lo hi 1 x.length).length = x.length) : cutL x.cps.toList lo hi = x.cps.toList := by
  rw [strIdx_plain] at h
  simp only [List.length_map, List.length_range] at h
  unfold cutL
  have e : x.cps.toList.length = x.length := by simp [Str.length]
  rw [e]
  have h1 : lo.elim 0 (clipAt x.length) ≤ x.length := by cases lo <;> simp [clipAt_le]
  have h2 : hi.elim x.length (clipAt x.length) ≤ x.length := by cases hi <;> simp [clipAt_le]
  rw [h]
  by_cases h0 : x.length = 0
  · have : x.cps.toList = [] := List.length_eq_zero_iff.mp (by rw [e, h0])
    rw [this]; simp
  · have h3 : lo.elim 0 (clipAt x.length) = 0 := by lia
    rw [h3, List.drop_zero, List.take_of_length_le (by rw [e]; exact Nat.le_refl _)]

theorem str_toArray (x : Str) : (⟨x.cps.toList.toArray⟩ : Str) = x := by cases x; rfl

theorem slice_str {x : Str} {t : Tok} {l u : Option (Int × Tok)} {a : Addr} (hs : s.heap.IsSlice a l u none) (hx : x.length ≤ sizeLine)
    (h : ∀ t' tk, Q (.str ⟨(cutL x.cps.toList (l.map (·.1)) (u.map (·.1))).toArray⟩ t') { s with toks := tk }) : wpAny (model prog w) A (getItem (.str x t) (.ref a)) Q E s := by
  refine wpAny_getItem_str_slice hs rfl ?_
  have hp := pick_str x (l.map (·.1)) (u.map (·.1))
  have hw := pick_whole x (l.map (·.1)) (u.map (·.1))
  unfold sliceMade
  have e : slicePicked x l u none = Builtin.Str.strSliceIndices (l.map (·.1)) (u.map (·.1)) 1 x.length := rfl
  rw [e]
  split
  · rename_i hc
    simp at hc
    have h2 := h t s.toks
    rw [hw hc, str_toArray] at h2
    exact h2
  · have h2 := h s.toks (s.toks + 1)
    rw [hp]
    refine ⟨?_, h2⟩
    show (cutL x.cps.toList _ _).toArray.size ≤ _
    rw [List.size_toArray]
    exact Nat.le_trans (cutL_length _ _ _) (by simpa [Str.length] using hx)

/-- a slice's step; the slice object lies at the heap's end -/
theorem slice_ok {o l u st v : V} {wo wl wu wst : Value} {H' : Hp} {value sl : Expr} (he : slice o l u st H = some (v, H')) (ho : VR σ s.heap o wo) (hl : VR σ s.heap l wl) (hu : VR σ s.heap u wu) (hst : VR σ s.heap st wst) (wr : WR hT σ H s.heap)
    (k : Kont xp hT b σ v H' Q s) : wpAny (model prog w) A (subscriptTail value sl wo (.ref s.heap.objs.size)) Q E { s with heap := s.heap.push { cls := .type "slice", data := .fields #[wl, wu, wst] } } := by
  obtain ⟨lo, h1, e1⟩ := bind_eq he
  clear he
  obtain ⟨hi, h2, he⟩ := bind_eq e1
  clear e1
  obtain ⟨pl, ql, el, rfl⟩ := partV_ok h1 hl
  obtain ⟨pu, qu, eu, rfl⟩ := partV_ok h2 hu
  have wr' := wr.push { cls := .type "slice", data := .fields #[wl, wu, wst] }
  have ex := Ext.push (xp := xp) [] b σ s.heap { cls := .type "slice", data := .fields #[wl, wu, wst] }
  have hso := Heap.IsSliceOf.new s.heap wl wu wst
  cases st
  case none =>
    cases hst.none_inv
    cases o
    case ref a =>
      obtain ⟨r, rfl, ha⟩ := ho.ref_inv
      obtain ⟨xs, h0, e2⟩ := bind_eq he
      cases e2
      obtain ⟨arr, p, vx, hz⟩ := wr'.obj a xs _ h0 ha
      have hs := arr_of vx
      refine tail_ok p.isList.typeIs slot_list_getitem.lookup (wpAny_getItem_list_slice p.isList hso pl pu .none (by simp) ?_ (by rw [hs]; exact hz))
      have hv : VRs σ (s.heap.push { cls := .type "slice", data := .fields #[wl, wu, .none] }) (cutL xs (ql.map (·.1)) (qu.map (·.1))) (slicePick arr (ql.map (·.1)) (qu.map (·.1)) none).toList := by
        rw [slicePick_plain, hs]
        exact (vx.drop _).take _
      exact k _ _ s.toks _ (wr'.pushL 0 hv (Nat.le_trans (cutL_length _ _ _) hz)) (.ref (by rw [← wr.len]; simp)) (ex.trans (Ext.pushL ..))
    case str z =>
      cases he
      obtain ⟨t, rfl, hz⟩ := ho.str_inv
      subst el eu
      refine tail_ok (typeIs_str _ _ _) slot_str_getitem.lookup (slice_str hso hz fun t' tk => ?_)
      refine k _ _ tk _ wr' (.str _ _ ?_) ex
      show (cutL _ _ _).toArray.size ≤ _
      rw [List.size_toArray]
      exact Nat.le_trans (cutL_length _ _ _) (by simpa [Str.length] using hz)
    all_goals exact nn he
  all_goals exact nn he
end
end Mine
end

section
set_option autoImplicit false
set_option maxRecDepth 100000
namespace Mine
open PySem PyProof.Rows
section
variable {xp : Bool} {prog : Program} {w : World} {A : Around} {E : Value → Shared → Prop} {s : Shared} {hT : TT} {b : Nat} {σ : List Addr} {H : Hp} {Q : Value → Shared → Prop}

/-- what a built-in name stands for -/
noncomputable def bvals : List (Str × Value) := [("len", .builtin "len"), ("sorted", .builtin "sorted"), ("any", .builtin "any"), ("range", .type "range")]
noncomputable def bval (f : Str) : Option Value := bvals.lookup f
theorem bval_len : bval "len" = some (.builtin "len") := by decide +kernel
theorem bval_sorted : bval "sorted" = some (.builtin "sorted") := by decide +kernel
theorem bval_any : bval "any" = some (.builtin "any") := by decide +kernel

theorem intsOf_cons {v : V} {vs : List V} {ns : List Int} (e : intsOf (v :: vs) = some ns) : ∃ i q, v = .int i ∧ ns = i :: q ∧ intsOf vs = some q := by
  cases v
  case int i => obtain ⟨q, e1, rfl⟩ := map_eq e; exact ⟨i, q, rfl, rfl, e1⟩
  all_goals exact nn e
theorem ints_are {h : Heap} {xs : List V} {ns : List Int} {ws : List Value} (e : intsOf xs = some ns) (x : VRs σ h xs ws) : IntsAre ws ns :=
  x.ind (motive := fun xs ws => ∀ ns, intsOf xs = some ns → IntsAre ws ns) (fun _ e => by cases e; exact .nil) (fun v vs w ws a _ ih ns e => by
    obtain ⟨i, q, rfl, rfl, e1⟩ := intsOf_cons e
    obtain ⟨t, rfl⟩ := a.int_inv
    exact .cons _ _ (ih q e1)) ns e
theorem ints_back {h : Heap} : ∀ {ns : List Int} {ws : List Value}, IntsAre ws ns → VRs σ h (ns.map V.int) ws
  | _, _, .nil => .nil
  | _, _, .cons n t r => .cons (.int n t) (ints_back r)

theorem insertI_perm (x : Int) : ∀ l, (insertI x l).Perm (x :: l)
  | [] => List.Perm.refl _
  | y :: r => by
    unfold insertI
    split
    · exact List.Perm.refl _
    · exact ((insertI_perm x r).cons y).trans (List.Perm.swap x y r)
theorem sortI_perm : ∀ l, (sortI l).Perm l
  | [] => List.Perm.refl _
  | x :: r => (insertI_perm x (sortI r)).trans ((sortI_perm r).cons x)
theorem insertI_sorted (x : Int) : ∀ {l : List Int}, l.Pairwise (· ≤ ·) → (insertI x l).Pairwise (· ≤ ·)
  | [], _ => by simp [insertI]
  | y :: r, h => by
    unfold insertI
    rw [List.pairwise_cons] at h
    split
    · rename_i hxy
      rw [List.pairwise_cons, List.pairwise_cons]
      refine ⟨fun z hz => ?_, h.1, h.2⟩
      rcases List.mem_cons.mp hz with e | e
      · subst e; lia
      · have := h.1 z e; lia
    · rename_i hxy
      rw [List.pairwise_cons]
      refine ⟨fun z hz => ?_, insertI_sorted x h.2⟩
      rcases List.mem_cons.mp ((insertI_perm x r).mem_iff.mp hz) with e | e
      · subst e; lia
      · exact h.1 z e
theorem sortI_sorted : ∀ l : List Int, (sortI l).Pairwise (· ≤ ·)
  | [] => List.Pairwise.nil
  | x :: r => insertI_sorted x (sortI_sorted r)
theorem sortI_unique {ns ns' : List Int} (hp : ns'.Perm ns) (hs : ns'.Pairwise (· ≤ ·)) : ns' = sortI ns :=
  List.Perm.eq_of_pairwise (fun a b _ _ h1 h2 => by lia) hs (sortI_sorted ns) (hp.trans (sortI_perm ns).symm)
theorem sortI_length (ns : List Int) : (sortI ns).length = ns.length := (sortI_perm ns).length_eq
theorem intsOf_length {xs : List V} : ∀ {ns : List Int}, intsOf xs = some ns → xs.length = ns.length := by
  induction xs with
  | nil => intro ns e; cases e; rfl
  | cons x r ih => intro ns e; obtain ⟨i, q, rfl, rfl, e1⟩ := intsOf_cons e; exact congrArg (· + 1) (ih e1)

theorem sorted_ok {a : Nat} {r : Addr} {xs : List V} {ns : List Int} (ha : σ[a]? = some r) (h0 : H[a]? = some xs) (hi : intsOf xs = some ns) (hl : ns.length < 64) (wr : WR hT σ H s.heap)
    (k : Kont xp hT b σ (.ref H.length) (H ++ [(sortI ns).map .int]) Q s) : wpAny (model prog w) A (call (.builtin "sorted") [.ref r]) Q E s := by
  obtain ⟨arr, p, vx, _⟩ := wr.obj a xs _ h0 ha
  have hI := ints_are hi vx
  have hz := arr_of vx
  have hx := intsOf_length hi
  refine sorted_ints (vs := arr.toList) (by simpa using p.isList) hI (by rw [Array.length_toList]; lia) fun out ns' a1 a2 a3 => ?_
  obtain ⟨e, he⟩ := sortedAll_at s.heap arr.toList out
  have hk : ∀ a o, s.heap.get? a = some o → (sortedAll s.heap arr.toList out).get? a = some o := fun _ _ => sortedAll_old
  have hn : s.heap.get? (s.heap.objs.size + 1) = none := by
    cases q : s.heap.get? (s.heap.objs.size + 1) with
    | none => rfl
    | some o => exact absurd (Heap.lt_size q) (Nat.not_lt.mpr (Nat.le_succ _))
  have hns : ns' = sortI ns := sortI_unique a2 a3
  subst hns
  refine k _ _ s.toks _ (wr.newL hk hn ⟨e, he⟩ (ints_back a1) ?_) (.ref (by rw [← wr.len]; simp)) (Ext.newL hk hn)
  rw [List.length_map, sortI_length, sizeLine_val]; lia

theorem boolsOf_cons {v : V} {vs : List V} {ns : List Bool} (e : boolsOf (v :: vs) = some ns) : ∃ i q, v = .bool i ∧ ns = i :: q ∧ boolsOf vs = some q := by
  cases v
  case bool i => obtain ⟨q, e1, rfl⟩ := map_eq e; exact ⟨i, q, rfl, rfl, e1⟩
  all_goals exact nn e
theorem bools_get {h : Heap} {xs : List V} {bs : List Bool} {ws : List Value} {i : Nat} {wv : Value} (e : boolsOf xs = some bs) (x : VRs σ h xs ws) (q : ws[i]? = some wv) : wv = .bool (bs.getD i false) :=
  x.ind (motive := fun xs ws => ∀ bs i, boolsOf xs = some bs → ws[i]? = some wv → wv = .bool (bs.getD i false)) (fun _ _ _ q => nn q) (fun v vs w ws a _ ih bs i e q => by
    obtain ⟨c, r, rfl, rfl, e1⟩ := boolsOf_cons e
    cases a.bool_inv
    cases i
    · cases q; rfl
    · exact ih r _ e1 q) bs i e q
theorem boolsOf_length {xs : List V} : ∀ {bs : List Bool}, boolsOf xs = some bs → xs.length = bs.length := by
  induction xs with
  | nil => intro ns e; cases e; rfl
  | cons x r ih => intro ns e; obtain ⟨i, q, rfl, rfl, e1⟩ := boolsOf_cons e; exact congrArg (· + 1) (ih e1)
theorem any_getD : ∀ bs : List Bool, (List.range bs.length).any (fun i => bs.getD i false) = bs.any id
  | [] => rfl
  | c :: r => by
    rw [List.length_cons, List.range_succ_eq_map, List.any_cons, List.any_map, List.any_cons, ← any_getD r]
    rfl

theorem any_ok {a : Nat} {r : Addr} {xs : List V} {bs : List Bool} (hh : A.handled = none) (ha : σ[a]? = some r) (h0 : H[a]? = some xs) (hi : boolsOf xs = some bs) (wr : WR hT σ H s.heap)
    (k : Kont xp hT b σ (.bool (bs.any id)) H Q s) : wpAny (model prog w) A (call (.builtin "any") [.ref r]) Q E s := by
  obtain ⟨arr, p, vx, _⟩ := wr.obj a xs _ h0 ha
  have hz := arr_of vx
  have hx := boolsOf_length hi
  refine call_any_walk (wpAny_pyIter_list p.isList ?_)
  have hlt : r < s.heap.objs.size := wr.lt (List.mem_of_getElem? ha)
  refine ⟨s.heap.objs.size, _, _, _, _, _, fun i => bs.getD i false, rfl, Walks.list (by exact hh) s.heap.objs.size r (Nat.ne_of_lt hlt) arr, ⟨⟨_, Heap.get?_push_size _ rfl, rfl, rfl⟩, (p.at fun o e => Heap.get?_push_of_some _ e).isList⟩, ?_, ?_⟩
  · intro i v s' Q' E' hP hQ
    have := bools_get hi vx (by rw [Array.getElem?_toList]; exact hP)
    subst this
    exact wpAny_truthy_bool hQ
  · intro h' tk hk
    have e : (List.range arr.size).any (fun i => bs.getD i false) = bs.any id := by rw [hz, hx, any_getD]
    rw [e]
    have hk' : ∀ a o, s.heap.get? a = some o → h'.get? a = some o := fun a o e => hk a o (by simp; exact Nat.ne_of_lt (Heap.lt_size e)) (Heap.get?_push_of_some _ e)
    exact k _ h' tk σ (wr.keeps hk') (.bool _) (Ext.keeps hk')

theorem strsOf_cons {v : V} {vs : List V} {ns : List Str} (e : strsOf (v :: vs) = some ns) : ∃ i q, v = .str i ∧ ns = i :: q ∧ strsOf vs = some q := by
  cases v
  case str i => obtain ⟨q, e1, rfl⟩ := map_eq e; exact ⟨i, q, rfl, rfl, e1⟩
  all_goals exact nn e
theorem strs_are {h : Heap} {xs : List V} {ss : List Str} {ws : List Value} (e : strsOf xs = some ss) (x : VRs σ h xs ws) : ∃ l : List (Str × Tok), ws = strValues l ∧ l.map (·.1) = ss :=
  x.ind (motive := fun xs ws => ∀ ss, strsOf xs = some ss → ∃ l : List (Str × Tok), ws = strValues l ∧ l.map (·.1) = ss) (fun _ e => by cases e; exact ⟨[], rfl, rfl⟩) (fun v vs w ws a _ ih bs e => by
    obtain ⟨c, r, rfl, rfl, e1⟩ := strsOf_cons e
    obtain ⟨t, rfl, _⟩ := a.str_inv
    obtain ⟨l, h1, h2⟩ := ih r e1
    exact ⟨(_, t) :: l, congrArg _ h1, congrArg _ h2⟩) ss e
theorem join_ok {a : Nat} {r : Addr} {x : Str} {t : Tok} {xs : List V} {ss : List Str} (ha : σ[a]? = some r) (h0 : H[a]? = some xs) (hi : strsOf xs = some ss) (hl : JoinOk x ss = true) (wr : WR hT σ H s.heap)
    (k : Kont xp hT b σ (.str (Txt.join x ss)) H Q s) : wpAny (model prog w) A (call (.builtin "str.join") [.str x t, .ref r]) Q E s := by
  obtain ⟨arr, p, vx, _⟩ := wr.obj a xs _ h0 ha
  obtain ⟨l, h1, h2⟩ := strs_are hi vx
  refine SC.join (l := l) (by rw [← h1]; simpa using p.isList) h2 hl fun t' tk => ?_
  exact k.same wr (.str _ _ (joinOk_length hl)) tk

theorem list_one {x : V} {ws : List Value} {h : Heap} (h1 : VRs σ h [x] ws) : ∃ w, ws = [w] ∧ VR σ h x w := by
  obtain ⟨w, e, q⟩ := h1.get (i := 0) rfl
  have hl := h1.length
  cases ws with
  | nil => exact nn e
  | cons y r =>
    cases r with
    | nil => cases e; exact ⟨_, rfl, q⟩
    | cons _ _ => cases hl

theorem one_eq {β α : Type} {f : β → Option α} {as : List β} {r : α} (e : one f as = some r) : ∃ v, as = [v] ∧ f v = some r := by
  cases as with
  | nil => exact nn e
  | cons v as =>
    cases as with
    | nil => exact ⟨v, rfl, e⟩
    | cons _ _ => exact nn e
theorem refV_eq {α : Type} {f : Nat → Option α} {v : V} {r : α} (e : refV f v = some r) : ∃ a, v = .ref a ∧ f a = some r := by
  cases v
  case ref a => exact ⟨a, rfl, e⟩
  all_goals exact nn e
theorem small_lt {n : Nat} (h : n ≤ sizeLine) : (n : Int) < 2 ^ 63 := by rw [sizeLine_val] at h; lia
theorem callB_view {f : Str} {as : List V} {p : V × Hp} (he : callB f as H = some p) : (f = "len" ∧ one (lenV H) as = some p) ∨ (f = "sorted" ∧ one (refV (sortedV H)) as = some p) ∨ (f = "any" ∧ one (refV (anyV H)) as = some p) := by
  unfold callB at he
  by_cases h1 : f = "len"
  · rw [if_pos h1] at he; exact .inl ⟨h1, he⟩
  rw [if_neg h1] at he
  by_cases h2 : f = "sorted"
  · rw [if_pos h2] at he; exact .inr (.inl ⟨h2, he⟩)
  rw [if_neg h2] at he
  exact .inr (.inr (ite_eq he))
theorem callB_bval {f : Str} {as : List V} {p : V × Hp} (he : callB f as H = some p) : ∃ id, bval f = some (.builtin id) := by
  rcases callB_view he with ⟨rfl, _⟩ | ⟨rfl, _⟩ | ⟨rfl, _⟩
  · exact ⟨_, bval_len⟩
  · exact ⟨_, bval_sorted⟩
  · exact ⟨_, bval_any⟩
theorem len_ok {x v : V} {wx : Value} {H' : Hp} (he : lenV H x = some (v, H')) (hx : VR σ s.heap x wx) (wr : WR hT σ H s.heap) (k : Kont xp hT b σ v H' Q s) : wpAny (model prog w) A (call (.builtin "len") [wx]) Q E s := by
  cases x
  case str z =>
    cases he
    obtain ⟨t, rfl, hl⟩ := hx.str_inv
    exact PyProof.Rows.len_str (Int.not_le.mpr (small_lt hl)) (k.same wr (.int _ _) _)
  case tup vs =>
    cases he
    obtain ⟨r, o, arr, n, rfl, a1, a2, a3, a4, a5⟩ := hx.tup_inv
    have ht : IsTup s.heap _ _ := ⟨_, a1, a2, _, a3⟩
    have hz := arr_of a4
    exact PyProof.Rows.len_tuple ht (small_lt (by rw [hz]; exact a5)) (by rw [hz]; exact k.same wr (.int _ _) _)
  case ref a =>
    obtain ⟨xs, h0, e⟩ := map_eq he
    cases e
    obtain ⟨r, rfl, ha⟩ := hx.ref_inv
    obtain ⟨arr, p, vx, hl⟩ := wr.obj a xs _ h0 ha
    have hz := arr_of vx
    exact Calls.call_len_list p.isList (small_lt (by rw [hz]; exact hl)) (by rw [hz]; exact k.same wr (.int _ _) _)
  all_goals exact nn he
theorem callB_ok {f : Str} {as : List V} {ws : List Value} {fv : Value} {v : V} {H' : Hp} (he : callB f as H = some (v, H')) (hf : bval f = some fv) (hh : A.handled = none) (hs : VRs σ s.heap as ws) (wr : WR hT σ H s.heap)
    (k : Kont xp hT b σ v H' Q s) : wpAny (model prog w) A (call fv ws) Q E s := by
  rcases callB_view he with ⟨rfl, he⟩ | ⟨rfl, he⟩ | ⟨rfl, he⟩
  · cases bval_len.symm.trans hf
    obtain ⟨x, rfl, he⟩ := one_eq he
    obtain ⟨wx, rfl, hx⟩ := list_one hs
    exact len_ok he hx wr k
  · cases bval_sorted.symm.trans hf
    obtain ⟨x, rfl, he⟩ := one_eq he
    obtain ⟨wx, rfl, hx⟩ := list_one hs
    obtain ⟨a, rfl, he⟩ := refV_eq he
    obtain ⟨r, rfl, ha⟩ := hx.ref_inv
    obtain ⟨xs, h0, he⟩ := bind_eq he
    obtain ⟨ns, h2, he⟩ := bind_eq he
    obtain ⟨hl, he⟩ := ite_eq he
    cases he
    exact sorted_ok ha h0 h2 hl wr k
  · cases bval_any.symm.trans hf
    obtain ⟨x, rfl, he⟩ := one_eq he
    obtain ⟨wx, rfl, hx⟩ := list_one hs
    obtain ⟨a, rfl, he⟩ := refV_eq he
    obtain ⟨r, rfl, ha⟩ := hx.ref_inv
    obtain ⟨xs, h0, he⟩ := bind_eq he
    obtain ⟨bs, h2, he⟩ := map_eq he
    cases he
    exact any_ok hh ha h0 h2 wr k

/-! methods -/
theorem PlainList.bare {h : Heap} {r : Addr} {arr : Array Value} (p : h.PlainList r arr) : ∃ o, h.get? r = some o ∧ o.cls = .type "list" ∧ o.dict = none := let ⟨_, e⟩ := p; ⟨_, e, rfl, rfl⟩

theorem dropLast_erase {α : Type} : ∀ (xs : List α), xs.dropLast = xs.eraseIdx (xs.length - 1)
  | [] => rfl
  | [_] => rfl
  | x :: y :: r => by
    rw [List.dropLast_cons_cons]
    show x :: (y :: r).dropLast = (x :: y :: r).eraseIdx (r.length + 1)
    rw [List.eraseIdx_cons_succ, dropLast_erase (y :: r)]
    rfl
theorem mem_drop_of' {a : Nat} {r : Addr} (ha : σ[a]? = some r) (hb : b ≤ a) : r ∈ σ.drop b := by
  rw [List.mem_iff_getElem?]
  exact ⟨a - b, by rw [List.getElem?_drop, show b + (a - b) = a by lia]; exact ha⟩

theorem append_ok {acc : Nat} {r : Addr} {v : V} {wv : Value} {H' : Hp} {Q : Value → Shared → Prop} (he : appendTo acc v H = some H') (hb : b ≤ acc) (ha : σ[acc]? = some r) (hv : VR σ s.heap v wv) (wr : WR hT σ H s.heap) (habove : ∀ r ∈ σ.drop b, hT.get? r = none)
    (k : ∀ h', WR hT σ H' h' → Ext xp [] b σ s.heap σ h' → Q .none { s with heap := h' }) : wpAny (model prog w) A (call (.builtin "list.append") [.ref r, wv]) Q E s := by
  obtain ⟨xs, h0, he⟩ := bind_eq he
  obtain ⟨hl0, he⟩ := ite_eq he
  cases he
  obtain ⟨arr, p, vx, hl⟩ := wr.obj acc xs _ h0 ha
  have hz := arr_of vx
  have hs1 : xs.length + 1 ≤ sizeLine := Nat.le_trans (Nat.succ_le_succ hl0) (by decide)
  refine wpAny_list_append_plain p (fun h' p' hs' => ?_) (by rw [hz]; exact Nat.le_of_succ_le hs1)
  have hvv : VRs σ s.heap (xs ++ [v]) (arr.push wv).toList := by rw [Array.toList_push]; exact vx.append (.cons hv .nil)
  exact k h' (wr.setL ha hs' p' hvv (by rw [List.length_append]; exact hs1) (habove _ (mem_drop_of' ha hb))) (Ext.setL ha hb hs' p')
theorem append_ok' {a : Nat} {x v : V} {r : Addr} {wx : Value} {H' : Hp} (he : appendV b H a x = some (v, H')) (ha : σ[a]? = some r) (hx : VR σ s.heap x wx) (wr : WR hT σ H s.heap) (habove : ∀ r ∈ σ.drop b, hT.get? r = none)
    (k : Kont xp hT b σ v H' Q s) : wpAny (model prog w) A (call (.builtin "list.append") [.ref r, wx]) Q E s := by
  obtain ⟨xs, h0, he⟩ := bind_eq he
  obtain ⟨hc, he⟩ := ite_eq he
  cases he
  refine append_ok (by unfold appendTo; rw [h0, Option.bind_some, if_pos hc.2]) hc.1 ha hx wr habove fun h' wr' ex => k _ _ s.toks _ wr' .none ex
theorem pop_ok {a : Nat} {v : V} {r : Addr} {as : List V} {H' : Hp} (he : popV b H a as = some (v, H')) (ha : σ[a]? = some r) (wr : WR hT σ H s.heap) (habove : ∀ r ∈ σ.drop b, hT.get? r = none)
    (k : Kont xp hT b σ v H' Q s) : wpAny (model prog w) A (call (.builtin "list.pop") [.ref r]) Q E s := by
  cases as with
  | cons _ _ => exact nn he
  | nil =>
  obtain ⟨xs, h0, he⟩ := bind_eq he
  obtain ⟨hc, he⟩ := ite_eq he
  obtain ⟨x, h3, h4⟩ := map_eq he
  cases h4
  obtain ⟨arr, ⟨nn, p⟩, vx, hl⟩ := wr.obj a xs _ h0 ha
  have hz := arr_of vx
  have hab : hT.get? r = none := habove r (mem_drop_of' ha hc)
  have h5 : xs[xs.length - 1]? = some v := by rw [← List.getLast?_eq_getElem?]; exact h3
  obtain ⟨wv, e1, e2⟩ := vx.get h5
  have hlt : arr.size - 1 < arr.size := by
    obtain ⟨q, _⟩ := List.getElem?_eq_some_iff.mp h5
    rw [hz]; exact q
  have e3 : arr[arr.size - 1]? = some wv := by rw [hz, ← Array.getElem?_toList]; exact e1
  have hpl : (s.heap.update r (Obj.mapSeq fun xs => xs.eraseIdxIfInBounds (arr.size - 1))).PlainList r (arr.eraseIdxIfInBounds (arr.size - 1)) := ⟨_, IsL.update (n := nn) p _⟩
  have hsb : Heap.SameBut r s.heap (s.heap.update r (Obj.mapSeq fun xs => xs.eraseIdxIfInBounds (arr.size - 1))) := Heap.SameBut.update ..
  have hv : VRs σ s.heap xs.dropLast (arr.eraseIdxIfInBounds (arr.size - 1)).toList := by
    rw [Array.eraseIdxIfInBounds, dif_pos hlt, Array.toList_eraseIdx, dropLast_erase, hz]
    exact vx.eraseIdx
  have hwr := wr.setL ha hsb hpl hv (by rw [List.length_dropLast]; exact Nat.le_trans (Nat.sub_le _ _) hl) hab
  have hex : Ext xp [] b σ s.heap σ _ := Ext.setL ha hc hsb hpl
  refine call_meets PySem.F.slot_list_pop ⟨_, p, rfl⟩ PySem.F.entry_list_pop (PySem.F.args_list_pop_1 _) (MeetsSeq.list_pop_last r arr nn wv e3 (by rw [hz]; exact hl)) ⟨p, ?_⟩
  exact k _ _ s.toks _ hwr (e2.mono (prefix_same _) (hex.tups wr)) hex
theorem callM_view {m : Str} {o : V} {as : List V} {p : V × Hp} (he : callM b m o as H = some p) : (∃ a, o = .ref a ∧ ((m = "append" ∧ one (appendV b H a) as = some p) ∨ (m = "pop" ∧ popV b H a as = some p))) ∨ (∃ z, o = .str z ∧ m = "join" ∧ one (refV (joinV H z)) as = some p) := by
  cases o
  case ref a =>
    refine .inl ⟨a, rfl, ?_⟩
    replace he : (if m = "append" then one (appendV b H a) as else if m = "pop" then popV b H a as else none) = some p := he
    by_cases h1 : m = "append"
    · rw [if_pos h1] at he; exact .inl ⟨h1, he⟩
    · rw [if_neg h1] at he; exact .inr (ite_eq he)
  case str z => exact .inr ⟨z, rfl, ite_eq he⟩
  all_goals exact nn he
theorem callM_ok {m : Str} {o v : V} {as : List V} {H' : Hp} (he : callM b m o as H = some (v, H')) : ∃ id : String,
    (∀ {σ : List Addr} {H : Hp} {s : Shared} {wo : Value} {E : Value → Shared → Prop} {pl : Sem Bool} {R : Value × List Value → Shared → Prop}, VR σ s.heap o wo → WR hT σ H s.heap → R (.builtin id, [wo]) s → wpAny (model prog w) A (getMethod wo m pl) R E s) ∧
    (∀ {σ : List Addr} {s : Shared} {wo : Value} {ws : List Value} {E : Value → Shared → Prop} {Q : Value → Shared → Prop}, VR σ s.heap o wo → WR hT σ H s.heap → (∀ r ∈ σ.drop b, hT.get? r = none) → VRs σ s.heap as ws → Kont xp hT b σ v H' Q s → wpAny (model prog w) A (call (.builtin id) (wo :: ws)) Q E s) := by
  have hv := callM_view he
  clear he
  rcases hv with ⟨a, rfl, ⟨rfl, he⟩ | ⟨rfl, he⟩⟩ | ⟨z, rfl, rfl, he⟩
  · refine ⟨"list.append", fun ho wr hR => ?_, fun ho wr hab hs k => ?_⟩
    · obtain ⟨r, rfl, ha⟩ := ho.ref_inv
      obtain ⟨arr, p⟩ := wr.lists (List.mem_of_getElem? ha)
      obtain ⟨o, e1, e2, e3⟩ := PlainList.bare p
      exact Calls.getMethod_list_append e1 e2 e3 hR
    · obtain ⟨r, rfl, ha⟩ := ho.ref_inv
      obtain ⟨x, rfl, he⟩ := one_eq he
      obtain ⟨wx, rfl, hx⟩ := list_one hs
      exact append_ok' he ha hx wr hab k
  · refine ⟨"list.pop", fun ho wr hR => ?_, fun ho wr hab hs k => ?_⟩
    · obtain ⟨r, rfl, ha⟩ := ho.ref_inv
      obtain ⟨arr, p⟩ := wr.lists (List.mem_of_getElem? ha)
      obtain ⟨o, e1, e2, e3⟩ := PlainList.bare p
      exact getMethod_list_of PySem.F.slot_list_pop PySem.F.type_list_pop p.isList (by exact ⟨o, e1, e3⟩) hR
    · obtain ⟨r, rfl, ha⟩ := ho.ref_inv
      cases as with
      | cons _ _ => exact nn he
      | nil => cases hs; exact pop_ok he ha wr hab k
  · refine ⟨"str.join", fun ho wr hR => ?_, fun ho wr hab hs k => ?_⟩
    · obtain ⟨t, rfl, hl⟩ := ho.str_inv
      exact GM.join hR
    · obtain ⟨t, rfl, hl⟩ := ho.str_inv
      obtain ⟨x, rfl, he⟩ := one_eq he
      obtain ⟨wx, rfl, hx⟩ := list_one hs
      obtain ⟨a, rfl, he⟩ := refV_eq he
      obtain ⟨r, rfl, ha⟩ := hx.ref_inv
      obtain ⟨xs, h0, he⟩ := bind_eq he
      obtain ⟨ss, h2, he⟩ := bind_eq he
      obtain ⟨hc, he⟩ := ite_eq he
      cases he
      exact join_ok ha h0 h2 hc wr k
end
end Mine
end

section
set_option autoImplicit false
set_option maxRecDepth 100000
namespace Mine
open PySem PyProof.Rows
section
variable {xp : Bool} {prog : Program} {w : World} {A : Around} {E : Value → Shared → Prop} {s : Shared} {hT : TT} {b : Nat} {σ : List Addr} {H : Hp}

theorem mapSeq_set (its : Array Value) (n j : Nat) (v : Value) : Obj.mapSeq (·.setIfInBounds j v) { cls := .type "list", data := .seq its n } = { cls := .type "list", data := .seq (its.setIfInBounds j v) n } := by
  simp [Obj.mapSeq]

/-- xs[k] = v, k from the front or from behind -/
theorem setItem_plain {l : Addr} {items : Array Value} {k : Int} {t : Tok} {v : Value} {j : Nat} {Q : Unit → Shared → Prop} (hl : s.heap.PlainList l items) (hlo : -(2 ^ 63) ≤ k) (hhi : k < 2 ^ 63) (hj : seqIndex? k items.size = some j)
    (hQ : ∀ h', h'.PlainList l (items.setIfInBounds j v) → Heap.SameBut l s.heap h' → Q () { s with heap := h' }) : wpAny (model prog w) A (setItem (.ref l) (.int k t) v) Q E s := by
  obtain ⟨ne, ho⟩ := id hl
  have hL := hl.isList
  have hjl : j < items.size := by
    rcases seqIndex_cases hj with ⟨h0, h1, rfl⟩ | ⟨h0, h1, rfl⟩ <;> lia
  have hx : items[j]? = some items[j] := Array.getElem?_eq_getElem hjl
  have fin : ∀ {A' : Around} {R : Unit → Shared → Prop} {E' : Value → Shared → Prop}, (∀ s', Q () s' → R () s') → wpAny (model prog w) A' (setSeqItemAt l j v) R E' s := by
    intro A' R E' hR
    refine wpAny_setSeqItemAt ho rfl (hR _ (hQ _ ⟨ne, ?_⟩ (Heap.SameBut.update ..)))
    rw [Heap.get?_update_self _ ho (by rw [mapSeq_set]; rfl), mapSeq_set]
  unfold setItem
  try with_reducible refine wpAny_holding ?_
  first | refine wpAny_bind (wpAny_pure ?_) | skip
  refine wpAny_bind (wpAny_sequenceKey hL.typeIs (by decide) ?_)
  refine wpAny_bind (wpAny_callSpecial?_slot (name := Str.ofString "__setitem__") hL.typeIs slot_list_setitem
    (wpAny_call_entry slot_list_setitem hL.typeIs entry_list_setitem ?_ (args_list_setitem _ _ _)))
  show wpAny _ _ (Builtin.List.listSubscript? (.int k t) >>= _) _ _ s
  rcases seqIndex_cases hj with ⟨h0, h1, e⟩ | ⟨h0, h1, e⟩
  · refine wpAny_bind (wpAny_listSubscript_int (fitsIndex_of h0 hhi) ?_)
    clear hlo hhi
    obtain ⟨q, rfl⟩ := Int.eq_ofNat_of_zero_le h0
    simp only [Int.toNat_natCast] at e
    subst e
    show wpAny _ _ ((seqItemAt l j >>= fun r => pure (r.map (j, ·))) >>= _) _ _ s
    refine wpAny_bind (wpAny_bind (wpAny_seqItemAt ho rfl (wpAny_pure ?_)))
    rw [hx]
    show wpAny _ _ (setSeqItemAt l j v >>= _) _ _ s
    refine wpAny_bind (fin fun s' h' => ?_)
    first
      | exact wpAny_bind (wpAny_pure (wpAny_pure ⟨.none, rfl, wpAny_pure h'⟩))
      | exact wpAny_pure ⟨.none, rfl, wpAny_pure h'⟩
  · refine wpAny_bind (wpAny_listSubscript_int (fitsIndex_neg h0 hlo) ?_)
    clear hlo hhi
    have hidx := hj
    obtain ⟨q, rfl⟩ : ∃ q : Nat, k = Int.negSucc q := by
      cases k with
      | ofNat n => exact absurd h0 (Int.not_lt.mpr (Int.natCast_nonneg n))
      | negSucc n => exact ⟨n, rfl⟩
    show wpAny _ _ ((Builtin.List.listItems (.ref l) >>= fun xs => pure ((seqIndex? (Int.negSucc q) xs.size).bind fun i => xs[i]?.map (i, ·))) >>= _) _ _ s
    refine wpAny_bind (wpAny_bind ?_)
    show wpAny _ _ (seqItems? (.ref l) >>= _) _ _ s
    refine wpAny_bind (wpAny_seqItems ho rfl (wpAny_pure (wpAny_pure ?_)))
    rw [hidx]
    simp only [Option.bind_some, hx, Option.map_some]
    refine wpAny_bind (fin fun s' h' => ?_)
    first
      | exact wpAny_bind (wpAny_pure (wpAny_pure ⟨.none, rfl, wpAny_pure h'⟩))
      | exact wpAny_pure ⟨.none, rfl, wpAny_pure h'⟩

theorem refInt_eq {α : Type} {f : Nat → Int → Option α} {x y : V} {r : α} (e : refInt f x y = some r) : ∃ a b, x = .ref a ∧ y = .int b ∧ f a b = some r := by
  cases x
  case ref a =>
    cases y
    case int b => exact ⟨a, b, rfl, rfl, e⟩
    all_goals exact nn e
  all_goals exact nn e

/-- what a store hands on -/
noncomputable def KontU (xp : Bool) (hT : TT) (b : Nat) (σ : List Addr) (H' : Hp) (Q : Unit → Shared → Prop) (s : Shared) : Prop :=
  ∀ h', WR hT σ H' h' → Ext xp [] b σ s.heap σ h' → Q () { s with heap := h' }

theorem setIdx_ok {o i v : V} {wo wi wv : Value} {H' : Hp} {Q : Unit → Shared → Prop} (he : setIdx b o i v H = some H') (ho : VR σ s.heap o wo) (hi : VR σ s.heap i wi) (hv : VR σ s.heap v wv) (wr : WR hT σ H s.heap)
    (habove : ∀ r ∈ σ.drop b, hT.get? r = none) (k : KontU xp hT b σ H' Q s) : wpAny (model prog w) A (setItem wo wi wv) Q E s := by
  obtain ⟨a, q, rfl, rfl, he⟩ := refInt_eq he
  obtain ⟨t, rfl⟩ := hi.int_inv
  obtain ⟨r, rfl, ha⟩ := ho.ref_inv
  obtain ⟨xs, h0, he⟩ := bind_eq he
  obtain ⟨j, hj, he⟩ := bind_eq he
  obtain ⟨hb, he⟩ := ite_eq he
  cases he
  obtain ⟨arr, p, vx, hl⟩ := wr.obj a xs _ h0 ha
  have hz := arr_of vx
  have hq := seqIndex_small hj hl
  refine setItem_plain p hq.1 hq.2 (by rw [hz]; exact hj) fun h' p' hs' => ?_
  have hv' : VRs σ s.heap (xs.set j v) (arr.setIfInBounds j wv).toList := by rw [Array.toList_setIfInBounds]; exact vx.set hv
  exact k h' (wr.setL ha hs' p' hv' (by rw [List.length_set]; exact hl) (habove _ (mem_drop_of' ha hb))) (Ext.setL ha hb hs' p')

theorem delIdx_ok {o i : V} {wo wi : Value} {H' : Hp} {Q : Unit → Shared → Prop} (he : delIdx b o i H = some H') (ho : VR σ s.heap o wo) (hi : VR σ s.heap i wi) (wr : WR hT σ H s.heap)
    (habove : ∀ r ∈ σ.drop b, hT.get? r = none) (k : KontU xp hT b σ H' Q s) : wpAny (model prog w) A (delItem wo wi) Q E s := by
  obtain ⟨a, q, rfl, rfl, he⟩ := refInt_eq he
  obtain ⟨t, rfl⟩ := hi.int_inv
  obtain ⟨r, rfl, ha⟩ := ho.ref_inv
  obtain ⟨xs, h0, he⟩ := bind_eq he
  obtain ⟨j, hj, he⟩ := bind_eq he
  obtain ⟨hb, he⟩ := ite_eq he
  cases he
  obtain ⟨arr, p, vx, hl⟩ := wr.obj a xs _ h0 ha
  have hz := arr_of vx
  have hq := seqIndex_small hj hl
  have hjl : j < arr.size := by
    rcases seqIndex_cases hj with ⟨h0, h2, e⟩ | ⟨h0, h2, e⟩ <;> (rw [e, hz]; lia)
  refine wpAny_delItem_plain p ?_ (by rw [hz]; exact hj) (fun h' p' hs' => ?_) (by rw [hz]; exact hl)
  · rcases seqIndex_cases hj with ⟨h0, _⟩ | ⟨h0, _⟩
    · exact fitsIndex_of h0 hq.2
    · exact fitsIndex_neg h0 hq.1
  · have hv' : VRs σ s.heap (xs.eraseIdx j) (arr.eraseIdxIfInBounds j).toList := by
      rw [Array.eraseIdxIfInBounds, dif_pos hjl, Array.toList_eraseIdx]; exact vx.eraseIdx
    exact k h' (wr.setL ha hs' p' hv' (Nat.le_trans (List.length_eraseIdx_le ..) hl) (habove _ (mem_drop_of' ha hb))) (Ext.setL ha hb hs' p')
end
end Mine
end

section
set_option autoImplicit false
set_option maxRecDepth 100000
namespace Mine
open PySem PyProof.Rows

/-- what is known of the generators after a step; and whether the lists of inner codes may grow -/
structure Zm where
  gp : Array GenState → Prop
  x : Bool
/-- tokens and generators after a step -/
structure Tok1 (z : Zm) where
  n : Nat
  gs : Array GenState
  pos : z.gp gs
/-- what an expression hands on -/
noncomputable def KontT (z : Zm) (hT : TT) (b : Nat) (σ : List Addr) (v : V) (H' : Hp) (Q : Value → Shared → Prop) (s : Shared) : Prop :=
  ∀ w h' (tk : Tok1 z) σ', WR hT σ' H' h' → VR σ' h' v w → Ext z.x [] b σ s.heap σ' h' → Q w { s with heap := h', toks := tk.n, gens := tk.gs }
theorem KontT.toK {z : Zm} {hT : TT} {b : Nat} {σ : List Addr} {v : V} {H' : Hp} {Q : Value → Shared → Prop} {s : Shared} (k : KontT z hT b σ v H' Q s) (ht : z.gp s.gens) : Kont z.x hT b σ v H' Q s :=
  fun w h' tk σ' wr hv ex => k w h' ⟨tk, s.gens, ht⟩ σ' wr hv ex
theorem KontT.same' {z : Zm} {hT : TT} {b : Nat} {σ : List Addr} {v : V} {H : Hp} {Q : Value → Shared → Prop} {s : Shared} {wv : Value} (k : KontT z hT b σ v H Q s) (wr : WR hT σ H s.heap) (hv : VR σ s.heap v wv) (ht : z.gp s.gens) : Q wv s :=
  k wv s.heap ⟨s.toks, s.gens, ht⟩ σ wr hv (Ext.refl ..)

/-- a def of the text: what the small reading gives for it, its call gives -/
noncomputable def FnSound (z : Zm) (prog : Program) (w : World) (hT : TT) (σ₀ : List Addr) (n : Nat) (fn : List V → Hp → Option (V × Hp)) (fa : Addr) : Prop :=
  ∀ args H v H', fn args H = some (v, H') → ∀ (A : Around) (σ : List Addr) (s : Shared) (Q : Value → Shared → Prop) (E : Value → Shared → Prop) (ws : List Value),
    Room A n → WR hT σ H s.heap → σ₀ <+: σ → VRs σ s.heap args ws → KontT z hT H.length σ v H' Q s → z.gp s.gens → wpAny (model prog w) A (call (.ref fa) ws) Q E s

/-- a dict at r with these pairs -/
noncomputable def DctAt (prog : Program) (w : World) (h : Heap) (r : Addr) (es : List (Str × V)) : Prop :=
  ∃ o, h.get? r = some o ∧ o.cls = .type "dict" ∧ (∀ vs, o.data ≠ .fields vs) ∧ ∀ (k : Str) (v : V) (t : Tok) (σ : List Addr) (A : Around) (s : Shared) (Q : Value → Shared → Prop) (E : Value → Shared → Prop), es.lookup k = some v → s.heap.get? r = some o →
    (∀ wv tk, VR σ s.heap v wv → Q wv { s with toks := tk }) → wpAny (model prog w) A (getItem (.ref r) (.str k t)) Q E s

structure Base (z : Zm) (prog : Program) (w : World) (hT : TT) (σ₀ : List Addr) (n : Nat) (g : Glob) : Prop where
  gns : ∃ mg, hT.Ns mainGlobals mg ∧ (∀ x v, g.val x = some v → ∃ wv, mg x = some wv ∧ VR σ₀ hT.toHeap v wv) ∧ (∀ x fv, bval x = some fv → mg x = none) ∧
    (∀ x, g.isFn x = true → ∃ fa o fd, mg x = some (.ref fa) ∧ hT.get? fa = some o ∧ o.data = .func fd ∧ FnSound z prog w hT σ₀ n (g.fn x) fa) ∧
    (∀ x es, g.dct x = some es → ∃ fa o fd, mg x = some (.ref fa) ∧ hT.get? fa = some o ∧ o.data = .func fd ∧
      ∀ (A : Around) (H : Hp) (σ : List Addr) (s : Shared) (Q : Value → Shared → Prop) (E : Value → Shared → Prop), Room A n → WR hT σ H s.heap → σ₀ <+: σ →
        (∀ r h' tk, WR hT σ H h' → DctAt prog w h' r es → Ext z.x [] H.length σ s.heap σ h' → Q (.ref r) { s with heap := h', toks := tk }) → wpAny (model prog w) A (call (.ref fa) []) Q E s)
  bns : ∃ mb, hT.Ns builtinsNs mb ∧ ∀ x fv, bval x = some fv → mb x = some fv
  lim : hT.NoLimit
  bm : ∃ mg bm ob, BMod hT.toHeap mainGlobals mg bm ob
section
variable (z : Zm) (prog : Program) (w : World) (hT : TT) (σ₀ : List Addr) (b n : Nat)

structure RecOK (rec : Rec) : Prop where
  ok : ∀ e κ ρ H v H', rec e κ ρ H = some (v, H') → ∀ (A : Around) (ω : Str → Bool) (W : List Addr) (env : Env) (σ : List Addr) (s : Shared) (Q : Value → Shared → Prop) (E : Value → Shared → Prop),
  Room A n → Good hT σ₀ κ ω ρ W env b σ H s.heap → KontT z hT b σ v H' Q s → (ht : z.gp s.gens := by first | assumption | exact Tok1.pos _) → wpAny (model prog w) A (eval e env) Q E s

noncomputable def KontB (σ : List Addr) (t : Bool) (H' : Hp) (Q : Bool → Shared → Prop) (s : Shared) : Prop :=
  ∀ h' (tk : Tok1 z) σ', WR hT σ' H' h' → Ext z.x [] b σ s.heap σ' h' → Q t { s with heap := h', toks := tk.n, gens := tk.gs }
structure RecTOK (rec : RecT) : Prop where
  ok : ∀ e κ ρ H t H', rec e κ ρ H = some (t, H') → ∀ (A : Around) (ω : Str → Bool) (W : List Addr) (env : Env) (σ : List Addr) (s : Shared) (Q : Bool → Shared → Prop) (E : Value → Shared → Prop),
  Room A n → Good hT σ₀ κ ω ρ W env b σ H s.heap → KontB z hT b σ t H' Q s → (ht : z.gp s.gens := by first | assumption | exact Tok1.pos _) → wpAny (model prog w) A (isTrue e env (eval e env)) Q E s

noncomputable def KontL (σ : List Addr) (vs : List V) (H' : Hp) (Q : List Value → Shared → Prop) (s : Shared) : Prop :=
  ∀ ws h' (tk : Tok1 z) σ', WR hT σ' H' h' → VRs σ' h' vs ws → Ext z.x [] b σ s.heap σ' h' → Q ws { s with heap := h', toks := tk.n, gens := tk.gs }
end

section
variable {z : Zm} {prog : Program} {w : World} {hT : TT} {σ₀ : List Addr} {b n : Nat} {g : Glob} {A : Around} {E : Value → Shared → Prop} {s : Shared} {σ : List Addr} {H : Hp} {κ : Kap} {ω : Str → Bool} {ρ : Rho} {W : List Addr} {env : Env}

theorem KontT.after {σ' : List Addr} {v : V} {H' : Hp} {Q : Value → Shared → Prop} {h' : Heap} {tk : Tok1 z} (k : KontT z hT b σ v H' Q s) (e : Ext z.x [] b σ s.heap σ' h') : KontT z hT b σ' v H' Q { s with heap := h', toks := tk.n, gens := tk.gs } :=
  fun wv h'' tk' σ'' wr hv ex => k wv h'' tk' σ'' wr hv (e.trans ex)
theorem KontB.after {σ' : List Addr} {t : Bool} {H' : Hp} {Q : Bool → Shared → Prop} {h' : Heap} {tk : Tok1 z} (k : KontB z hT b σ t H' Q s) (e : Ext z.x [] b σ s.heap σ' h') : KontB z hT b σ' t H' Q { s with heap := h', toks := tk.n, gens := tk.gs } :=
  fun h'' tk' σ'' wr ex => k h'' tk' σ'' wr (e.trans ex)
theorem KontL.after {σ' : List Addr} {vs : List V} {H' : Hp} {Q : List Value → Shared → Prop} {h' : Heap} {tk : Tok1 z} (k : KontL z hT b σ vs H' Q s) (e : Ext z.x [] b σ s.heap σ' h') : KontL z hT b σ' vs H' Q { s with heap := h', toks := tk.n, gens := tk.gs } :=
  fun ws h'' tk' σ'' wr hv ex => k ws h'' tk' σ'' wr hv (e.trans ex)

/-- a value outlives an expression's step -/
theorem VR.after {v : V} {wv : Value} {σ' : List Addr} {h h' : Heap} (x : VR σ h v wv) (wr : WR hT σ H h) (e : Ext z.x [] b σ h σ' h') : VR σ' h' v wv := x.mono e.prefix (e.tups wr)
theorem VRs.after {v : List V} {wv : List Value} {σ' : List Addr} {h h' : Heap} (x : VRs σ h v wv) (wr : WR hT σ H h) (e : Ext z.x [] b σ h σ' h') : VRs σ' h' v wv := x.mono e.prefix (e.tups wr)

theorem ft {P : Prop} (h : false = true) : P := nomatch h
theorem global_ok {x : Str} {pos : Pos} {Q : Value → Shared → Prop} (B : Base z prog w hT σ₀ n g) (G : Good hT σ₀ κ ω ρ W env b σ H s.heap) (hk : κ x = some .globalImplicit) (hd : x ≠ "__debug__")
    (hv : (∃ v, g.val x = some v ∧ ∀ w', VR σ s.heap v w' → Q w' s) ∨ (g.val x = none ∧ g.isFn x = false ∧ ∃ fv, bval x = some fv ∧ Q fv s)) : wpAny (model prog w) A (eval (.Name x pos) env) Q E s := by
  have hk' : env.kindOf x = some .globalImplicit := by rw [G.env.kind]; exact hk
  have hd' : (x == ("__debug__" : Str)) = false := by simpa using hd
  refine Calls.Name_function_global G.env.fn hk' ?_ hd'
  obtain ⟨mg, hg, h1, h2, _⟩ := B.gns
  have hg' : s.heap.Ns env.globals mg := by rw [G.env.glob]; exact hg.keeps G.wr.top
  rcases hv with ⟨v, e1, q⟩ | ⟨e1, e2, fv, e3, q⟩
  · obtain ⟨wv, e3, e4⟩ := h1 x v e1
    exact Calls.loadGlobal_global hg' e3 (q wv (e4.mono G.tab (Tups.keeps G.wr.top)))
  · obtain ⟨mb, hb, h3⟩ := B.bns
    have hb' : s.heap.Ns env.builtins mb := by rw [G.env.blt]; exact hb.keeps G.wr.top
    exact Calls.loadGlobal_builtin hg' (h2 x fv e3) hb' (h3 x fv e3) q

theorem name_ok {x : Str} {pos : Pos} {v : V} {Q : Value → Shared → Prop} (he : nameV g κ ρ x = some v) (B : Base z prog w hT σ₀ n g) (G : Good hT σ₀ κ ω ρ W env b σ H s.heap) (k : KontT z hT b σ v H Q s) (ht : z.gp s.gens := by first | assumption | exact Tok1.pos _) :
    wpAny (model prog w) A (eval (.Name x pos) env) Q E s := by
  unfold nameV at he
  by_cases hn : x = "__debug__" ∨ x = "__classdict__"
  · rw [if_pos hn] at he; exact nn he
  rw [if_neg hn] at he
  have hd : x ≠ "__debug__" := fun e => hn (.inl e)
  have hd' : (x == ("__debug__" : Str)) = false := beq_false_of_ne hd
  have hc' : (x == ("__classdict__" : Str)) = false := beq_false_of_ne fun e => hn (.inr e)
  revert he
  cases hk : κ x with
  | none => exact fun he => nn he
  | some c =>
    cases c
    case «local» =>
      intro he
      obtain ⟨m, hm, hv⟩ := G.env.ns
      obtain ⟨wv, e1, e2⟩ := hv x v hk he
      exact wpAny_Name (wpAny_loadName_local G.env.fn (by rw [G.env.kind]; exact hk) hm e1 (k.same' G.wr e2 ht)) hd'
    case cell =>
      intro he
      obtain ⟨c, v₀, e1, e2, e3⟩ := G.env.cell x (.inl hk)
      obtain ⟨wv, rfl, e5⟩ := e3 v he
      exact wpAny_Name (wpAny_loadName_cell G.env.fn (by rw [G.env.kind]; exact hk) e1 e2 (k.same' G.wr e5 ht)) hd'
    case free =>
      intro he
      obtain ⟨c, v₀, e1, e2, e3⟩ := G.env.cell x (.inr hk)
      obtain ⟨wv, rfl, e5⟩ := e3 v he
      exact wpAny_Name (wpAny_loadName_free G.env.fn (by rw [G.env.kind]; exact hk) e1 e2 (k.same' G.wr e5 ht) hc') hd'
    case globalImplicit => exact fun he => global_ok B G hk hd (.inl ⟨_, he, fun w' q => k.same' G.wr q ht⟩)
    all_goals exact fun he => nn he

theorem star_cons {e : Expr} {r : List Expr} {env : Env} (h : notStar e = true) : starEach (e :: r) env = (false, eval e env) :: starEach r env := by
  cases e <;> first | rfl | exact ft h
theorem evs_cons {rec : Rec} {e : Expr} {r : List Expr} {vs : List V} {H' : Hp} (he : evs rec κ ρ (e :: r) H = some (vs, H')) : ∃ p q, notStar e = true ∧ rec e κ ρ H = some p ∧ evs rec κ ρ r p.2 = some q ∧ vs = p.1 :: q.1 ∧ H' = q.2 := by
  obtain ⟨hst, he⟩ := ite_eq he
  obtain ⟨p, h1, he⟩ := bind_eq he
  obtain ⟨q, h2, he⟩ := map_eq he
  cases he
  exact ⟨p, q, hst, h1, h2, rfl, rfl⟩
theorem evs_ok {rec : Rec} (R : RecOK z prog w hT σ₀ b n rec) (room : Room A n) : ∀ {es : List Expr} {vs : List V} {H H' : Hp} {σ : List Addr} {s : Shared} {pos : Pos} {Q : List Value → Shared → Prop}, evs rec κ ρ es H = some (vs, H') →
    Good hT σ₀ κ ω ρ W env b σ H s.heap → KontL z hT b σ vs H' Q s → (ht : z.gp s.gens := by first | assumption | exact Tok1.pos _) → wpAny (model prog w) A (spliced (backTo pos (starEach es env))) Q E s := by
  intro es
  induction es with
  | nil =>
    intro vs H H' σ s pos Q he G k ht
    cases he
    exact Calls.spliced_nil (k [] s.heap ⟨s.toks, s.gens, ht⟩ σ G.wr .nil (Ext.refl ..))
  | cons e r ih =>
    intro vs H H' σ s pos Q he G k ht
    obtain ⟨p, q, hst, h1, h2, rfl, rfl⟩ := evs_cons he
    rw [star_cons hst]
    show wpAny _ _ (spliced ((false, eval e env) :: backTo pos (starEach r env))) _ _ _
    refine Calls.spliced_cons (R.ok e κ ρ H p.1 p.2 h1 A ω W env σ s _ E room G fun w1 h1' tk1 σ1 wr1 v1 e1 => ?_)
    refine ih h2 (G.step wr1 e1) fun ws h2' tk2 σ2 wr2 v2 e2 => ?_
    exact k _ h2' tk2 σ2 wr2 (.cons (v1.after wr1 e2) v2) (e1.trans e2)

theorem evBool_ok {rec : Rec} (R : RecOK z prog w hT σ₀ b n rec) (room : Room A n) {op : BoolOp} : ∀ {es : List Expr} {v : V} {H H' : Hp} {σ : List Addr} {s : Shared} {pos : Pos} {Q : Value → Shared → Prop}, evBool rec op κ ρ es H = some (v, H') →
    Good hT σ₀ κ ω ρ W env b σ H s.heap → KontT z hT b σ v H' Q s → (ht : z.gp s.gens := by first | assumption | exact Tok1.pos _) → wpAny (model prog w) A (boolOp pos op (evalEach es env)) Q E s := by
  intro es
  induction es with
  | nil => intro v H H' σ s pos Q he _ _ _; exact nn he
  | cons e r ih =>
    intro v H H' σ s pos Q he G k ht
    cases r with
    | nil => exact R.ok e κ ρ H v H' he A ω W env σ s Q E room G k ht
    | cons e' r =>
      obtain ⟨p, h1, he⟩ := bind_eq he
      obtain ⟨t, h2, he⟩ := bind_eq he
      show wpAny _ _ (eval e env >>= fun v => standAt pos >>= fun _ => holding [v] (truthy v) >>= fun t => match op, t with
        | .And, false | .Or, true => pure v
        | _, _ => boolOp pos op (evalEach (e' :: r) env)) _ _ _
      refine wpAny_bind (R.ok e κ ρ H p.1 p.2 h1 A ω W env σ s _ E room G fun w1 h1' tk1 σ1 wr1 v1 e1 => ?_)
      refine wpAny_bind (wpAny_standAt (wpAny_bind (wpAny_holding (truthV_ok h2 v1 ?_))))
      have don : some p = some (v, H') → wpAny (model prog w) A (pure w1) Q E { s with heap := h1', toks := tk1.n, gens := tk1.gs } := fun e => by cases e; exact wpAny_pure (k _ _ _ _ wr1 v1 e1)
      have go : evBool rec op κ ρ (e' :: r) p.2 = some (v, H') → wpAny (model prog w) A (boolOp pos op (evalEach (e' :: r) env)) Q E { s with heap := h1', toks := tk1.n, gens := tk1.gs } := fun e => ih (pos := pos) e (G.step wr1 e1) (k.after (tk := tk1) e1)
      cases op <;> cases t <;> first | exact don he | exact go he

theorem evOpt_ok {rec : Rec} (R : RecOK z prog w hT σ₀ b n rec) (room : Room A n) {e : Option Expr} {v : V} {H' : Hp} {Q : Value → Shared → Prop} (he : evOpt rec κ ρ e H = some (v, H'))
    (G : Good hT σ₀ κ ω ρ W env b σ H s.heap) (k : KontT z hT b σ v H' Q s) (ht : z.gp s.gens := by first | assumption | exact Tok1.pos _) : wpAny (model prog w) A (evalPart e env) Q E s := by
  cases e with
  | none => cases he; exact wpAny_pure (k.same' G.wr .none ht)
  | some e => exact R.ok e κ ρ H v H' he A ω W env σ s Q E room G k ht
end
end Mine
end

section
set_option autoImplicit false
set_option maxRecDepth 100000
namespace Mine
open PySem PyProof.Rows
section
variable {z : Zm} {prog : Program} {w : World} {hT : TT} {σ₀ : List Addr} {b n : Nat} {g : Glob} {A : Around} {E : Value → Shared → Prop} {s : Shared} {σ : List Addr} {H : Hp} {κ : Kap} {ω : Str → Bool} {ρ : Rho} {W : List Addr} {env : Env}

theorem release_ok {M : Model} {vs keep : List Value} {Q : Unit → Shared → Prop} (h : Q () s) : wpAny M A (release vs keep) Q E s := fun Γ p hΓ => by rw [Sem.wp_release]; exact h

theorem notSet_marks {op : CmpOp} {e : Expr} (h : notSet e = true) : behindInMarks op e = false := by
  cases e <;> first | rfl | exact ft h

theorem cmpChain_step {rec : Rec} {x : V} {ops : List CmpOp} {es : List Expr} {t : Bool} {H' : Hp} (h : cmpChain rec κ ρ x ops es H = some (t, H')) :
    ∃ op e p, ops = [op] ∧ es = [e] ∧ notSet e = true ∧ rec e κ ρ H = some p ∧ cmpop op x p.1 p.2 = some t ∧ H' = p.2 := by
  cases ops with
  | nil => exact nn h
  | cons op ops =>
  cases ops with
  | cons _ _ => exact nn h
  | nil =>
  cases es with
  | nil => exact nn h
  | cons e es =>
  cases es with
  | cons _ _ => exact nn h
  | nil =>
  obtain ⟨hn, h⟩ := ite_eq h
  obtain ⟨p, h1, h⟩ := bind_eq h
  obtain ⟨c, h2, h⟩ := map_eq h
  cases h
  exact ⟨_, _, p, rfl, rfl, hn, h1, h2, rfl⟩

theorem marked_cons {op : CmpOp} {ops : List CmpOp} {e : Expr} {es : List Expr} {env : Env} (hn : notSet e = true) : markedEach (op :: ops) (e :: es) (evalEach (e :: es) env) = eval e env :: markedEach ops es (evalEach es env) := by
  cases ops with
  | nil =>
    cases es with
    | nil =>
      show [markedBehindIn op e (eval e env)] = _
      rw [markedBehindIn_of_false (notSet_marks hn)]
      rfl
    | cons e' es => rfl
  | cons op' ops => cases es <;> rfl

theorem cmpChain_ok {rec : Rec} (R : RecOK z prog w hT σ₀ b n rec) (room : Room A n) {ops : List CmpOp} {es : List Expr} {x : V} {wx : Value} {t : Bool} {H' : Hp} {pos : Pos} {Q : Value → Shared → Prop} (he : cmpChain rec κ ρ x ops es H = some (t, H'))
    (hx : VR σ s.heap x wx) (G : Good hT σ₀ κ ω ρ W env b σ H s.heap) (k : KontT z hT b σ (.bool t) H' Q s) (ht : z.gp s.gens := by first | assumption | exact Tok1.pos _) : wpAny (model prog w) A (compareChain pos wx ops (markedEach ops es (evalEach es env))) Q E s := by
  obtain ⟨op, e, p, rfl, rfl, hn, h1, h2, rfl⟩ := cmpChain_step he
  rw [marked_cons hn]
  show wpAny _ _ (do let rv ← holding [wx] (eval e env); standAt pos; operate [wx, rv] (compareOp op wx rv)) _ _ _
  refine wpAny_bind (wpAny_holding (R.ok e κ ρ H p.1 p.2 h1 A ω W env σ s _ E room G fun w1 h1' tk1 σ1 wr1 v1 e1 => ?_))
  exact wpAny_bind (wpAny_standAt (wpAny_operating (cmpop_ok h2 (hx.after G.wr e1) v1 wr1 room (k _ _ _ _ wr1 (.bool _) e1))))

theorem testChain_ok {rec : Rec} (R : RecOK z prog w hT σ₀ b n rec) (room : Room A n) {ops : List CmpOp} {es : List Expr} {x : V} {wx : Value} {t : Bool} {H' : Hp} {pos : Pos} {Q : Bool → Shared → Prop} (he : cmpChain rec κ ρ x ops es H = some (t, H'))
    (hx : VR σ s.heap x wx) (G : Good hT σ₀ κ ω ρ W env b σ H s.heap) (k : KontB z hT b σ t H' Q s) (ht : z.gp s.gens := by first | assumption | exact Tok1.pos _) : wpAny (model prog w) A (testChain pos wx ops (markedEach ops es (evalEach es env))) Q E s := by
  obtain ⟨op, e, p, rfl, rfl, hn, h1, h2, rfl⟩ := cmpChain_step he
  rw [marked_cons hn]
  show wpAny _ _ (do let rv ← holding [wx] (eval e env); standAt pos; let c ← operate [wx, rv] (compareOp op wx rv); holding [c] (truthy c)) _ _ _
  refine wpAny_bind (wpAny_holding (R.ok e κ ρ H p.1 p.2 h1 A ω W env σ s _ E room G fun w1 h1' tk1 σ1 wr1 v1 e1 => ?_))
  exact wpAny_bind (wpAny_standAt (wpAny_bind (wpAny_operating (cmpop_ok h2 (hx.after G.wr e1) v1 wr1 room (wpAny_holding (wpAny_truthy_bool (k _ _ _ wr1 e1)))))))

/-! calls -/
theorem evs_plain {rec : Rec} {env : Env} {es : List Expr} {pos : Pos} : ∀ {vs : List V} {H H' : Hp}, evs rec κ ρ es H = some (vs, H') → (backTo pos (starEach es env)).any (·.1) = false := by
  induction es with
  | nil => exact fun _ => rfl
  | cons e r ih =>
    intro vs H H' he
    obtain ⟨p, q, hst, h1, h2, rfl, rfl⟩ := evs_cons he
    rw [star_cons hst]
    exact ih h2

theorem args_ok {rec : Rec} (R : RecOK z prog w hT σ₀ b n rec) (room : Room A n) {es : List Expr} {vs : List V} {H' : Hp} {pos : Pos} {fv : Value} {Q : Args → Shared → Prop} (he : evs rec κ ρ es H = some (vs, H'))
    (G : Good hT σ₀ κ ω ρ W env b σ H s.heap) (k : KontL z hT b σ vs H' (fun ws s' => Q ⟨ws, []⟩ s') s) (ht : z.gp s.gens := by first | assumption | exact Tok1.pos _) : wpAny (model prog w) A (evalArgs fv true (backTo pos (starEach es env)) []) Q E s := by
  cases es with
  | nil =>
    cases he
    exact PySem.evalArgs_none (k [] s.heap ⟨s.toks, s.gens, ht⟩ σ G.wr .nil (Ext.refl ..))
  | cons e r =>
    have h := evs_ok (E := E) (pos := pos) R room he G k
    obtain ⟨p, q, hst, _⟩ := evs_cons he
    rw [star_cons hst] at h ⊢
    exact Calls.evalArgs_plain h

theorem callVal_ok {rec : Rec} (R : RecOK z prog w hT σ₀ b n rec) (room : Room A n) {es : List Expr} {vs : List V} {H' : Hp} {pos : Pos} {fv : Value} {Q : Value → Shared → Prop} (hf : (∃ id, fv = .builtin id) ∨ ∃ T, fv = .type T) (he : evs rec κ ρ es H = some (vs, H'))
    (G : Good hT σ₀ κ ω ρ W env b σ H s.heap) (k : KontL z hT b σ vs H' (fun ws s' => wpAny (model prog w) A (call fv ws) Q E s') s) (ht : z.gp s.gens := by first | assumption | exact Tok1.pos _) : wpAny (model prog w) A (callWith pos fv [] (backTo pos (starEach es env)) []) Q E s := by
  rcases hf with ⟨id, rfl⟩ | ⟨T, rfl⟩
  · exact Calls.callWith_builtin (evs_plain he) (args_ok R room he G k)
  · exact PyProof.Rows.callWith_type (evs_plain he) (args_ok R room he G k)

theorem base_ok {o : Expr} {attr : Str} {whole : Sem Value} (h : okBase o = true) : attributeBase o attr env whole = whole := by
  cases o
  case Call f args kws p =>
    cases f
    case Name x q =>
      cases args with
      | cons _ _ => rfl
      | nil =>
        cases kws with
        | cons _ _ => rfl
        | nil => exact ft h
    all_goals rfl
  all_goals rfl

theorem method_ok {rec : Rec} (R : RecOK z prog w hT σ₀ b n rec) (room : Room A n) {o : Expr} {m : Str} {ap pos : Pos} {es : List Expr} {p : V × Hp} {q : List V × Hp} {v : V} {H' : Hp} {Q : Value → Shared → Prop}
    (h1 : okBase o = true) (h2 : ap.endLine = pos.line) (h3 : es.length < 30) (ho : rec o κ ρ H = some p) (he : evs rec κ ρ es p.2 = some q) (hc : callM b m p.1 q.1 q.2 = some (v, H'))
    (G : Good hT σ₀ κ ω ρ W env b σ H s.heap) (k : KontT z hT b σ v H' Q s) (ht : z.gp s.gens := by first | assumption | exact Tok1.pos _) : wpAny (model prog w) A (eval (.Call (.Attribute o m ap) es [] pos) env) Q E s := by
  show wpAny _ _ (do
    let ov ← attributeBase o m env (eval o env)
    standAt ap.atName
    methodCall o m ap pos env ov (es.length + 0) (backTo pos (starEach es env)) []) _ _ _
  rw [base_ok h1]
  refine wpAny_bind (R.ok o κ ρ H p.1 p.2 ho A ω W env σ s _ E room G fun w1 h1' tk1 σ1 wr1 v1 e1 => wpAny_bind (wpAny_standAt ?_))
  have G1 := G.step wr1 e1
  have hform : methodCallForm (es.length + 0) (backTo pos (starEach es env)) [] = true := by
    have hp := evs_plain (env := env) (pos := pos) he
    unfold methodCallForm
    simp only [List.all_nil, List.isEmpty_nil, if_true, Nat.add_zero, Bool.and_true, Bool.and_eq_true, decide_eq_true_eq]
    refine ⟨?_, h3⟩
    rw [List.all_eq_not_any_not]
    simpa using hp
  unfold methodCall
  rw [hform]
  show wpAny _ _ (holding [w1] (getMethod w1 m (do return (← importBound o env).getD true)) >>= fun fx => methodCallPos true o env ap pos >>= fun cp => callWith cp fx.1 fx.2 (backTo pos (starEach es env)) []) _ _ _
  have hpos : methodCallPos true o env ap pos = pure pos := by
    unfold methodCallPos
    rw [if_pos (by simp [h2])]
  rw [hpos]
  obtain ⟨id, hg, hcl⟩ := callM_ok (prog := prog) (w := w) (A := A) (hT := hT) hc
  refine wpAny_bind (wpAny_holding (hg v1 wr1 ?_))
  refine wpAny_bind (wpAny_pure (Calls.callWith_builtin (evs_plain he) (args_ok R room he G1 fun ws h2' tk2 σ2 wr2 v2 e2 => ?_)))
  have G2 := G1.step wr2 e2
  exact hcl (v1.after wr1 e2) wr2 G2.above v2 (((k.after (tk := tk1) e1).after (tk := tk2) e2).toK tk2.pos)
end
end Mine
end

section
set_option autoImplicit false
set_option maxRecDepth 100000
namespace Mine
open PySem PyProof.Rows

theorem chk_eq {a : Nat} {all : List V} {H : Hp} (h : chk (some a) all H = true) : H[a]? = some all := @of_decide_eq_true _ (Classical.propDecidable _) h

noncomputable def chars (x : Str) : List V := x.cps.toList.map fun c => .str ⟨#[c]⟩
noncomputable def intsV (lo : Int) (k : Nat) : List V := (List.range k).map fun i : Nat => .int (lo + i)
theorem intsV_succ (lo : Int) (k : Nat) : intsV lo (k + 1) = .int lo :: intsV (lo + 1) k := by
  unfold intsV
  rw [List.range_succ_eq_map, List.map_cons, List.map_map]
  congr 1
  · simp
  · apply List.map_congr_left
    intro i _
    simp only [Function.comp]
    congr 1
    have : ((Nat.succ i : Nat) : Int) = (i : Int) + 1 := by lia
    rw [this]; lia

/-- an iterator at it that still has rest to give -/
inductive It (σ : List Addr) (h : Heap) (it : Addr) : Option Nat → List V → List V → Prop
  | list {a l all i} : σ[a]? = some l → h.IsListIter it l i → It σ h it (some a) all (all.drop i)
  | tuple {r arr all i} : h.IsTuple r arr → VRs σ h all arr.toList → h.IsTupleIter it r i → It σ h it none all (all.drop i)
  | str {T x t all i} : (T = "str_ascii_iterator" ∨ T = "str_iterator") → h.IsStrIter it T x t i → It σ h it none all ((chars x).drop i)
  | range {lo all} {k : Nat} : IsRangeIter h it lo k 1 → It σ h it none all (intsV lo k)

theorem It.obj {σ : List Addr} {h : Heap} {it : Addr} {c : Option Nat} {all rest : List V} (x : It σ h it c all rest) : ∃ o, h.get? it = some o ∧ (∀ arr n, o.data ≠ .seq arr n) := by
  cases x with
  | list _ q => obtain ⟨o, a, b, c⟩ := q; exact ⟨o, a, (by rw [c]; intro _ _ e; cases e)⟩
  | tuple _ _ q => obtain ⟨o, a, b, c⟩ := q; exact ⟨o, a, (by rw [c]; intro _ _ e; cases e)⟩
  | str hT q => obtain ⟨o, a, b, c⟩ := q; exact ⟨o, a, (by rw [c]; intro _ _ e; cases e)⟩
  | range q => exact ⟨_, q, (by intro _ _ e; cases e)⟩

theorem It.keep {σ σ' : List Addr} {h h' : Heap} {it : Addr} {c : Option Nat} {all rest : List V} (x : It σ h it c all rest) (p : σ <+: σ') (tu : Tups h h') (k : ∀ o, h.get? it = some o → h'.get? it = some o) : It σ' h' it c all rest := by
  cases x with
  | list a q => obtain ⟨o, e, r⟩ := q; exact .list (getElem?_prefix p a) ⟨o, k o e, r⟩
  | tuple a v q =>
    obtain ⟨o, e, r⟩ := q
    obtain ⟨o₁, e₁, c₁, r₁⟩ := a
    exact .tuple ⟨o₁, tu _ _ e₁ c₁ ⟨_, r₁⟩, c₁, r₁⟩ (v.mono p tu) ⟨o, k o e, r⟩
  | str ht q => obtain ⟨o, e, r⟩ := q; exact .str ht ⟨o, k o e, r⟩
  | range q => exact .range (k _ q)

theorem drop_cons {α : Type} {xs : List α} {i : Nat} {v : α} {rest : List α} (h : xs.drop i = v :: rest) : xs[i]? = some v ∧ rest = xs.drop (i + 1) := by
  constructor
  · have := List.getElem?_drop (xs := xs) (i := i) (j := 0)
    rw [h] at this
    simpa using this.symm
  · rw [← List.drop_drop, h]; rfl
theorem drop_nil {α : Type} {xs : List α} {i : Nat} (h : xs.drop i = []) : xs[i]? = none := by
  rw [List.drop_eq_nil_iff] at h
  exact List.getElem?_eq_none h

theorem Tups.but {h h' : Heap} {it : Addr} {o : Obj} (kk : ∀ a o, h.get? a = some o → a ≠ it → h'.get? a = some o) (e : h.get? it = some o) (hd : ∀ arr n, o.data ≠ .seq arr n) : Tups h h' := fun a o' e' _ d' => kk a o' e' fun q => by
  subst q
  rw [e] at e'; cases e'
  obtain ⟨arr, n, d⟩ := d'
  exact hd arr n d
theorem same_but {h h' : Heap} {it : Addr} (hs : Heap.SameBut it h h') : ∀ a o, h.get? a = some o → a ≠ it → h'.get? a = some o := fun a _ e q => (hs.2 a q).trans e
theorem tups_same {h h' : Heap} {it : Addr} {o : Obj} (hs : Heap.SameBut it h h') (e : h.get? it = some o) (hd : ∀ arr n, o.data ≠ .seq arr n) : Tups h h' := Tups.but (same_but hs) e hd

section
variable {prog : Program} {w : World} {hT : TT} {A : Around} {E : Value → Shared → Prop} {s : Shared} {σ : List Addr} {H : Hp}

theorem next_item {it : Addr} {c : Option Nat} {all rest : List V} {v : V} {Q : Option Value → Shared → Prop} (x : It σ s.heap it c all (v :: rest)) (hc : chk c all H = true) (wr : WR hT σ H s.heap)
    (k : ∀ wv h' tk, VR σ h' v wv → It σ h' it c all rest → Heap.SameBut it s.heap h' → Q (some wv) { s with heap := h', toks := tk }) : wpAny (model prog w) A (pyNext (.ref it)) Q E s := by
  obtain ⟨o, eo, hd⟩ := x.obj
  generalize hr : v :: rest = r at x
  cases x with
  | list ha q =>
    obtain ⟨e1, rfl⟩ := drop_cons hr.symm
    obtain ⟨arr, p, vx, _⟩ := wr.obj _ _ _ (chk_eq hc) ha
    obtain ⟨wv, e2, e3⟩ := vx.get e1
    refine wpAny_pyNext_list_item q p.isList (by rw [← Array.getElem?_toList]; exact e2) fun h' q' hs => ?_
    have tu := tups_same hs eo hd
    exact k wv h' s.toks (e3.mono (prefix_same _) tu) (.list ha q') hs
  | tuple ht vx q =>
    obtain ⟨e1, rfl⟩ := drop_cons hr.symm
    obtain ⟨wv, e2, e3⟩ := vx.get e1
    refine wpAny_pyNext_tuple_item q ht (by rw [← Array.getElem?_toList]; exact e2) fun h' q' hs => ?_
    have tu := tups_same hs eo hd
    obtain ⟨o₁, e₁, c₁, r₁⟩ := ht
    exact k wv h' s.toks (e3.mono (prefix_same _) tu) (.tuple ⟨o₁, tu _ _ e₁ c₁ ⟨_, r₁⟩, c₁, r₁⟩ (vx.mono (prefix_same _) tu) q') hs
  | str ht q =>
    obtain ⟨e1, rfl⟩ := drop_cons hr.symm
    unfold chars at e1
    rw [List.getElem?_map] at e1
    obtain ⟨ch, e2, e3⟩ := Option.map_eq_some_iff.mp e1
    rw [Array.getElem?_toList] at e2
    subst e3
    rcases ht with rfl | rfl
    · exact wpAny_pyNext_ascii_item q e2 fun h' q' hs => k _ h' _ (.str _ _ (by show (1 : Nat) ≤ _; decide)) (.str (.inl rfl) q') hs
    · exact wpAny_pyNext_wide_item q e2 fun h' q' hs => k _ h' _ (.str _ _ (by show (1 : Nat) ≤ _; decide)) (.str (.inr rfl) q') hs
  | range q =>
    rename_i lo kk
    cases kk with
    | zero => simp [intsV] at hr
    | succ kk =>
      rw [intsV_succ] at hr
      injection hr with h1 h2
      subst h1 h2
      refine wpAny_pyNext_range_item q (by lia) fun h' q' hs => k _ h' _ (.int _ _) (.range ?_) hs
      have e : ((kk + 1 : Nat) : Int) - 1 = (kk : Int) := by lia
      rw [e] at q'
      exact q'

theorem next_end {it : Addr} {c : Option Nat} {all : List V} {Q : Option Value → Shared → Prop} (hh : A.handled = none) (x : It σ s.heap it c all []) (hc : chk c all H = true) (wr : WR hT σ H s.heap)
    (k : ∀ h', Heap.ExtBut it s.heap h' → Q none { s with heap := h' }) : wpAny (model prog w) A (pyNext (.ref it)) Q E s := by
  generalize hr : ([] : List V) = r at x
  cases x with
  | list ha q =>
    obtain ⟨arr, p, vx, _⟩ := wr.obj _ _ _ (chk_eq hc) ha
    have e1 := drop_nil hr.symm
    refine wpAny_pyNext_list_end hh q p.isList ?_ k
    rw [← Array.getElem?_toList]
    have := vx.length
    rw [List.getElem?_eq_none_iff] at e1 ⊢
    lia
  | tuple ht vx q =>
    have e1 := drop_nil hr.symm
    refine wpAny_pyNext_tuple_end hh q ht ?_ k
    rw [← Array.getElem?_toList]
    have := vx.length
    rw [List.getElem?_eq_none_iff] at e1 ⊢
    lia
  | str ht q =>
    have e1 := drop_nil hr.symm
    unfold chars at e1
    rw [List.getElem?_map, Option.map_eq_none_iff, Array.getElem?_toList] at e1
    rcases ht with rfl | rfl
    · exact wpAny_pyNext_ascii_end hh q e1 k
    · exact wpAny_pyNext_wide_end hh q e1 k
  | range q =>
    rename_i lo kk
    cases kk with
    | zero => exact wpAny_pyNext_range_end hh q (by lia) k
    | succ kk => rw [intsV_succ] at hr; cases hr

theorem iter_self {it : Addr} {c : Option Nat} {all rest : List V} {Q : Value → Shared → Prop} (x : It σ s.heap it c all rest) (k : Q (.ref it) s) : wpAny (model prog w) A (pyIter (.ref it)) Q E s := by
  cases x with
  | list ha q => exact wpAny_pyIter_listiter q k
  | tuple ht vx q => exact wpAny_pyIter_tupleiter q k
  | str ht q =>
    rcases ht with rfl | rfl
    · exact wpAny_pyIter_striter_ascii q k
    · exact wpAny_pyIter_striter_wide q k
  | range q => exact wpAny_pyIter_rangeiter q k
end
end Mine
end

section
set_option autoImplicit false
set_option maxRecDepth 100000
namespace Mine
open PySem PyProof.Rows

inductive FR (σ : List Addr) (h : Heap) : Fl → Flow → Prop
  | next : FR σ h .next .next
  | brk : FR σ h .brk .brk
  | cont : FR σ h .cont .cont
  | ret {v wv} : VR σ h v wv → FR σ h (.ret v) (.ret wv)

section
variable (z : Zm) (prog : Program) (w : World) (hT : TT) (σ₀ : List Addr) (b n : Nat) (κ : Kap) (ω : Str → Bool)
/-- what a statement hands on -/
noncomputable def KontS (W : List Addr) (env : Env) (σ : List Addr) (fl : Fl) (ρ' : Rho) (H' : Hp) (Q : Flow → Shared → Prop) (s : Shared) : Prop :=
  ∀ fw h' (tk : Tok1 z) σ', Good hT σ₀ κ ω ρ' W env b σ' H' h' → FR σ' h' fl fw → Ext z.x W b σ s.heap σ' h' → Q fw { s with heap := h', toks := tk.n, gens := tk.gs }
structure RecSOK (recS : RecS) : Prop where
  ok : ∀ st ρ H fl ρ' H', recS st ρ H = some (fl, ρ', H') → ∀ (A : Around) (W : List Addr) (env : Env) (σ : List Addr) (s : Shared) (Q : Flow → Shared → Prop) (E : Value → Shared → Prop),
  Room A n → Good hT σ₀ κ ω ρ W env b σ H s.heap → KontS z hT σ₀ b κ ω W env σ fl ρ' H' Q s → (ht : z.gp s.gens := by first | assumption | exact Tok1.pos _) → wpAny (model prog w) A (exec st env) Q E s
end

section
variable {z : Zm} {prog : Program} {w : World} {hT : TT} {σ₀ : List Addr} {b n : Nat} {g : Glob} {A : Around} {E : Value → Shared → Prop} {s : Shared} {σ : List Addr} {H : Hp} {κ : Kap} {ω : Str → Bool} {ρ : Rho} {W : List Addr} {env : Env}

theorem KontS.after {σ' : List Addr} {fl : Fl} {ρ' : Rho} {H' : Hp} {Q : Flow → Shared → Prop} {h' : Heap} {tk : Tok1 z} (k : KontS z hT σ₀ b κ ω W env σ fl ρ' H' Q s) (e : Ext z.x W b σ s.heap σ' h') : KontS z hT σ₀ b κ ω W env σ' fl ρ' H' Q { s with heap := h', toks := tk.n, gens := tk.gs } :=
  fun fw h'' tk' σ'' G f ex => k fw h'' tk' σ'' G f (e.trans ex)

theorem Ext.nil {σ' : List Addr} {h h' : Heap} (x : Ext z.x [] b σ h σ' h') : Ext z.x W b σ h σ' h' := x.weaken fun _ _ _ q => by cases q

/-- one object of the frame's own (its locals, a cell) is changed -/
theorem WR.but {h h' : Heap} {a : Addr} {o : Obj} (x : WR hT σ H h) (kk : ∀ c o, h.get? c = some o → c ≠ a → h'.get? c = some o) (ho : h.get? a = some o) (hd : ∀ arr n, o.data ≠ .seq arr n) (ht : hT.get? a = none) (hp : notP a) : WR hT σ H h' := by
  have tu : Tups h h' := Tups.but kk ho hd
  refine ⟨x.len, fun c ys q h1 h2 => ?_, x.nodup, fun d o' e => ?_, code_but x.code kk (fun p hm q => by obtain ⟨⟨oc, ec⟩, _⟩ := x.ct p hm; rw [q, ht] at ec; exact nn ec) hp, x.ct⟩
  · obtain ⟨arr, p, v, l⟩ := x.obj c ys q h1 h2
    refine ⟨arr, p.at fun o' e => kk _ _ e fun e' => ?_, v.mono (prefix_same _) tu, l⟩
    subst e'
    exact x.not_of_data ho hd (List.mem_of_getElem? h2)
  · refine kk _ _ (x.top d o' e) fun e' => ?_
    subst e'
    rw [ht] at e; exact nn e
theorem WR.other {h h' : Heap} {a : Addr} {o : Obj} (x : WR hT σ H h) (hs : Heap.SameBut a h h') (ho : h.get? a = some o) (hd : ∀ arr n, o.data ≠ .seq arr n) (ht : hT.get? a = none) (hp : notP a) : WR hT σ H h' := x.but (same_but hs) ho hd ht hp

theorem upd_self (ρ : Rho) (x : Str) (v : V) : upd ρ x v x = some v := by simp [upd]
theorem upd_other (ρ : Rho) {x y : Str} (v : V) (h : y ≠ x) : upd ρ x v y = ρ y := by simp [upd, h]

/-- a name's store -/
theorem store_ok {x : Str} {v : V} {wv : Value} {Q : Unit → Shared → Prop} (hω : ω x = true) (G : Good hT σ₀ κ ω ρ W env b σ H s.heap) (hv : VR σ s.heap v wv)
    (k : ∀ h' tk, Good hT σ₀ κ ω (upd ρ x v) W env b σ H h' → Ext z.x W b σ s.heap σ h' → Q () { s with heap := h', toks := tk }) : wpAny (model prog w) A (storeName env x wv) Q E s := by
  obtain ⟨m, hm, hmv⟩ := G.env.ns
  rcases G.env.own x hω with hk | ⟨hk, hcw⟩
  · refine wpAny_storeName_local (by rw [G.env.kind]; exact hk) hm (fun h' hm' hs => ?_) (by rw [G.env.fn]; rfl)
    obtain ⟨o, es, ep, ho, hd, _⟩ := id hm
    obtain ⟨o', es', ep', ho', hd', _⟩ := id hm'
    have hds : ∀ arr n, o.data ≠ .seq arr n := by rw [hd]; intro _ _ e; cases e
    have tu := tups_same hs ho hds
    have wr' := G.wr.other hs ho hds (G.wabove _ G.env.loc) (G.env.wp _ G.env.loc)
    refine k h' _ ⟨G.code, wr', ⟨G.env.fn, G.env.kind, G.env.glob, G.env.blt, ⟨_, hm', fun y u hy he => ?_⟩, fun y hy => ?_, G.env.inj, G.env.own, G.env.loc, fun a ha => ?_, G.env.wp⟩, G.base, G.above, G.wabove, G.tab⟩
      ⟨⟨[], by simp, by simp⟩, there_same hs ho', fun a oa e hw _ _ => (hs.2 a fun q => hw (by rw [q]; exact G.env.loc)).trans e⟩
    · by_cases q : y = x
      · subst q
        rw [upd_self] at he; cases he
        exact ⟨wv, by simp, hv.mono (prefix_same _) tu⟩
      · rw [upd_other _ _ q] at he
        obtain ⟨wu, e1, e2⟩ := hmv y u hy he
        exact ⟨wu, by simp [q, e1], e2.mono (prefix_same _) tu⟩
    · obtain ⟨c, v₀, e1, ⟨oc, e2, e3⟩, e4⟩ := G.env.cell y hy
      have hyx : y ≠ x := by rintro rfl; rw [hk] at hy; rcases hy with q | q <;> cases q
      refine ⟨c, v₀, e1, ⟨oc, (hs.2 c fun q => ?_).trans e2, e3⟩, fun u he => ?_⟩
      · subst q
        rw [ho] at e2; cases e2
        rw [hd] at e3; cases e3
      · rw [upd_other _ _ hyx] at he
        obtain ⟨wu, e5, e6⟩ := e4 u he
        exact ⟨wu, e5, e6.mono (prefix_same _) tu⟩
    · by_cases q : a = env.locals
      · subst q; exact ⟨o', ho', by rw [hd']; intro _ _ e; cases e⟩
      · obtain ⟨oa, e1, e2⟩ := G.env.wobj a ha
        exact ⟨oa, (hs.2 a q).trans e1, e2⟩
  · obtain ⟨c, v₀, e1, hc, e4⟩ := G.env.cell x (.inl hk)
    have hcW := hcw c e1
    refine wpAny_storeName_cell G.env.fn (by rw [G.env.kind]; exact hk) e1 hc fun h' hc' hs => ?_
    obtain ⟨o, ho, hd⟩ := id hc
    obtain ⟨o', ho', hd'⟩ := id hc'
    have hds : ∀ arr n, o.data ≠ .seq arr n := by rw [hd]; intro _ _ e; cases e
    have tu := tups_same hs ho hds
    have wr' := G.wr.other hs ho hds (G.wabove _ hcW) (G.env.wp _ hcW)
    obtain ⟨oL, es, ep, hoL, hdL, rL⟩ := id hm
    have hLc : env.locals ≠ c := by
      intro q; rw [q, ho] at hoL; cases hoL; rw [hd] at hdL; cases hdL
    refine k h' s.toks ⟨G.code, wr', ⟨G.env.fn, G.env.kind, G.env.glob, G.env.blt, ⟨m, hm.sameBut hs hLc, fun y u hy he => ?_⟩, fun y hy => ?_, G.env.inj, G.env.own, G.env.loc, fun a ha => ?_, G.env.wp⟩, G.base, G.above, G.wabove, G.tab⟩
      ⟨⟨[], by simp, by simp⟩, there_same hs ho', fun a oa e hw _ _ => (hs.2 a fun q => hw (by rw [q]; exact hcW)).trans e⟩
    · have hyx : y ≠ x := by rintro rfl; rw [hk] at hy; cases hy
      rw [upd_other _ _ hyx] at he
      obtain ⟨wu, e5, e6⟩ := hmv y u hy he
      exact ⟨wu, e5, e6.mono (prefix_same _) tu⟩
    · by_cases q : y = x
      · subst q
        refine ⟨c, _, e1, hc', fun u he => ?_⟩
        rw [upd_self] at he; cases he
        exact ⟨wv, rfl, hv.mono (prefix_same _) tu⟩
      · obtain ⟨d, u₀, f1, f2, f4⟩ := G.env.cell y hy
        refine ⟨d, u₀, f1, f2.sameBut hs fun e => q (G.env.inj y x d f1 (by rw [e]; exact e1)), fun u he => ?_⟩
        rw [upd_other _ _ q] at he
        obtain ⟨wu, e5, e6⟩ := f4 u he
        exact ⟨wu, e5, e6.mono (prefix_same _) tu⟩
    · by_cases q : a = c
      · subst q; exact ⟨o', ho', by rw [hd']; intro _ _ e; cases e⟩
      · obtain ⟨oa, f1, f2⟩ := G.env.wobj a ha
        exact ⟨oa, (hs.2 a q).trans f1, f2⟩
end
end Mine
end

section
set_option autoImplicit false
set_option maxRecDepth 100000
namespace Mine
open PySem PyProof.Rows
section
variable {z : Zm} {prog : Program} {w : World} {hT : TT} {σ₀ : List Addr} {b n : Nat} {g : Glob} {A : Around} {E : Value → Shared → Prop} {s : Shared} {σ : List Addr} {H : Hp} {κ : Kap} {ω : Str → Bool} {ρ : Rho} {W : List Addr} {env : Env}

theorem nameOf_eq {t : Expr} {x : Str} (h : nameOf t = some x) : ∃ pos, t = .Name x pos := by
  cases t
  case Name y pos => cases h; exact ⟨pos, rfl⟩
  all_goals exact nn h
theorem bindNames_cons {t : Expr} {ts : List Expr} {vs : List V} {ρ ρ' : Rho} (he : bindNames ω (t :: ts) vs ρ = some ρ') : ∃ x pos v r, t = .Name x pos ∧ vs = v :: r ∧ ω x = true ∧ bindNames ω ts r (upd ρ x v) = some ρ' := by
  cases vs with
  | nil => exact nn he
  | cons v r =>
    obtain ⟨x, hx, e1⟩ := bind_eq he
    obtain ⟨hω, e2⟩ := ite_eq e1
    obtain ⟨pos, rfl⟩ := nameOf_eq hx
    exact ⟨x, pos, v, r, rfl, rfl, hω, e2⟩
theorem VRs.cons_inv {h : Heap} {v : V} {vs : List V} {ws : List Value} (x : VRs σ h (v :: vs) ws) : ∃ w r, ws = w :: r ∧ VR σ h v w ∧ VRs σ h vs r := by
  cases x with | cons a r => exact ⟨_, _, rfl, a, r⟩
/-- a name's, or a tuple of names', binding -/
theorem bindNames_ok : ∀ {ts : List Expr} {vs : List V} {ws : List Value} {ρ ρ' : Rho} {s : Shared} {Q : Unit → Shared → Prop}, bindNames ω ts vs ρ = some ρ' → Good hT σ₀ κ ω ρ W env b σ H s.heap → VRs σ s.heap vs ws →
    (∀ h' tk, Good hT σ₀ κ ω ρ' W env b σ H h' → Ext z.x W b σ s.heap σ h' → Q () { s with heap := h', toks := tk }) → wpAny (model prog w) A (assignInOrder ((assignEach ts env).map (·.2)) ws) Q E s := by
  intro ts
  induction ts with
  | nil =>
    intro vs ws ρ ρ' s Q he G hv k
    cases vs with
    | nil => cases he; exact wpAny_pure (k s.heap s.toks G (Ext.refl ..))
    | cons _ _ => exact nn he
  | cons t ts ih =>
    intro vs ws ρ ρ' s Q he G hv k
    obtain ⟨x, pos, v, r, rfl, rfl, hω, h2⟩ := bindNames_cons he
    obtain ⟨wx, wr', rfl, hx, hr⟩ := hv.cons_inv
    show wpAny _ _ (holding wr' (assign (.Name x pos) env wx) >>= fun _ => assignInOrder ((assignEach ts env).map (·.2)) wr') _ _ _
    refine wpAny_bind (wpAny_holding (wpAny_assign_Name (store_ok (z := z) hω G hx fun h' tk G' e' => ?_)))
    have tu := e'.tupsW G.wr G.env.wobj
    exact ih h2 G' (hr.mono (prefix_same _) tu) fun h'' tk' G'' e'' => k h'' tk' G'' (e'.trans e'')

theorem starEach_none {ts : List Expr} : ∀ {vs : List V} {ρ ρ' : Rho}, bindNames ω ts vs ρ = some ρ' → (assignEach ts env).findIdx? (·.1) = none ∧ (assignEach ts env).length = vs.length := by
  induction ts with
  | nil =>
    intro vs ρ ρ' he
    cases vs with
    | nil => exact ⟨rfl, rfl⟩
    | cons _ _ => exact nn he
  | cons t ts ih =>
    intro vs ρ ρ' he
    obtain ⟨x, pos, v, r, rfl, rfl, hω, h2⟩ := bindNames_cons he
    obtain ⟨a, c⟩ := ih h2
    have e : assignEach (.Name x pos :: ts) env = (false, assign (.Name x pos) env) :: assignEach ts env := rfl
    rw [e, List.findIdx?_cons]
    refine ⟨?_, congrArg (· + 1) c⟩
    rw [a]; rfl

theorem assign_ok {t : Expr} {v : V} {wv : Value} {ρ' : Rho} {Q : Unit → Shared → Prop} (he : bindT ω t v ρ = some ρ') (hh : A.handled = none) (G : Good hT σ₀ κ ω ρ W env b σ H s.heap) (hv : VR σ s.heap v wv)
    (k : ∀ h' tk, Good hT σ₀ κ ω ρ' W env b σ H h' → Ext z.x W b σ s.heap σ h' → Q () { s with heap := h', toks := tk }) : wpAny (model prog w) A (assign t env wv) Q E s := by
  cases t
  case Name x pos =>
    obtain ⟨hω, he⟩ := ite_eq he
    cases he
    exact wpAny_assign_Name (store_ok (z := z) hω G hv k)
  case Tuple ts q pos =>
    cases v
    case tup vs =>
      obtain ⟨r, o, arr, m, rfl, h1, h2, h3, h4, h5⟩ := hv.tup_inv
      obtain ⟨e1, e2⟩ := starEach_none (env := env) he
      show wpAny _ _ (standAt pos >>= fun _ => unpack (.ref r) (assignEach ts env)) _ _ _
      refine wpAny_bind (wpAny_standAt (wpAny_unpack_tuple hh ⟨o, h1, h2, m, h3⟩ (by rw [e2, arr_of h4]) e1 fun h' hx => ?_))
      -- the unpacking's own iterator is new
      have hk : ∀ a o, s.heap.get? a = some o → h'.get? a = some o := fun a o e => hx a o (Nat.ne_of_lt (Heap.lt_size e)) e
      have ex : Ext z.x [] b σ s.heap σ h' := Ext.keeps hk
      exact bindNames_ok (z := z) he (G.step (G.wr.keeps hk) ex) (h4.mono (prefix_same _) (Tups.keeps hk)) fun h'' tk' G'' e'' => k h'' tk' G'' (ex.nil.trans e'')
    all_goals exact nn he
  all_goals exact nn he

theorem fresh_of {σ' : List Addr} {h h' : Heap} {W' : List Addr} (e : Ext z.x W' b σ h σ' h') {a : Addr} (ha : h'.get? a = none) : h.get? a = none := by
  cases q : h.get? a with
  | none => rfl
  | some o =>
    obtain ⟨o', e'⟩ := e.there a o q
    rw [ha] at e'; cases e'

/-- an iterator for what a loop goes over -/
theorem items_ok {v : V} {wv : Value} {items : List V} {c : Option Nat} {Q : Value → Shared → Prop} (he : itemsOf v H = some (items, c)) (hv : VR σ s.heap v wv) (wr : WR hT σ H s.heap)
    (k : ∀ it h' tk, WR hT σ H h' → It σ h' it c items items → Ext z.x [] b σ s.heap σ h' → s.heap.get? it = none → Q (.ref it) { s with heap := h', toks := tk }) : wpAny (model prog w) A (pyIter wv) Q E s := by
  cases v
  case str x =>
    cases he
    obtain ⟨t, rfl, hl⟩ := hv.str_inv
    refine wpAny_pyIter_strU (k _ _ s.toks (wr.push _) ?_ (Ext.push ..) (get_size _))
    exact It.str (T := strIterType x) (x := x) (t := t) (all := chars x) (i := 0) (by unfold strIterType; split <;> simp) ⟨_, Heap.get?_push_size _ rfl, rfl, rfl⟩
  case tup vs =>
    cases he
    obtain ⟨r, o, arr, m, rfl, h1, h2, h3, h4, h5⟩ := hv.tup_inv
    have ht : s.heap.IsTuple r arr := ⟨o, h1, h2, m, h3⟩
    refine wpAny_pyIter_tuple ht (k _ _ s.toks (wr.push _) ?_ (Ext.push ..) (get_size _))
    exact It.tuple (i := 0) ⟨o, Heap.get?_push_of_some _ h1, h2, m, h3⟩ (h4.mono (prefix_same _) (Tups.keeps fun _ _ e => Heap.get?_push_of_some _ e)) ⟨_, Heap.get?_push_size _ rfl, rfl, rfl⟩
  case ref a =>
    obtain ⟨l, rfl, ha⟩ := hv.ref_inv
    obtain ⟨xs, h0, h1⟩ := map_eq he
    cases h1
    obtain ⟨arr, p, vx, _⟩ := wr.obj a items l h0 ha
    refine wpAny_pyIter_list p.isList (k _ _ s.toks (wr.push _) ?_ (Ext.push ..) (get_size _))
    exact It.list (all := items) (i := 0) ha ⟨_, Heap.get?_push_size _ rfl, rfl, rfl⟩
  all_goals exact nn he

theorem notSet_folded {e : Expr} (h : notSet e = true) (x : Value) : foldedSetIterable e env x = pure x := by
  cases e <;> first | rfl | exact ft h

theorem rangeCall_eq {e : Expr} {f : Str} {args : List Expr} (h : rangeCall e = some (f, args)) : f = "range" ∧ ∃ p pos, e = .Call (.Name f p) args [] pos := by
  cases e
  case Call fn as kws pos =>
    cases fn
    case Name x p =>
      cases kws with
      | cons _ _ => exact nn h
      | nil => obtain ⟨q, h⟩ := ite_eq h; cases h; exact ⟨q, _, _, rfl⟩
    all_goals exact nn h
  all_goals exact nn h
theorem rangeArgs_eq {as : List V} {r : Int × Int} (h : rangeArgs as = some r) : (∃ n, as = [.int n] ∧ n.natAbs ≤ 2 ^ 40 ∧ r = (0, n)) ∨ ∃ m n, as = [.int m, .int n] ∧ m.natAbs ≤ 2 ^ 40 ∧ n.natAbs ≤ 2 ^ 40 ∧ r = (m, n) := by
  cases as with
  | nil => exact nn h
  | cons x as =>
  cases as with
  | nil =>
    cases x
    case int n => obtain ⟨q, h⟩ := ite_eq h; cases h; exact .inl ⟨n, rfl, q, rfl⟩
    all_goals exact nn h
  | cons y as =>
    cases x
    case int m =>
      cases y
      case int n =>
        cases as with
        | nil => obtain ⟨q, h⟩ := ite_eq h; cases h; exact .inr ⟨m, n, rfl, q.1, q.2, rfl⟩
        | cons _ _ => exact nn h
      all_goals exact nn h
    all_goals exact nn h

theorem rangeSize_eq (lo hi : Int) : Builtin.Range.rangeSize lo hi 1 = ((hi - lo).toNat : Int) := by
  unfold Builtin.Range.rangeSize
  simp only [show (1 : Int) > 0 by lia, if_true, Int.ediv_one]
  split <;> lia
theorem range_small {lo hi : Int} (h1 : lo.natAbs ≤ 2 ^ 40) (h2 : hi.natAbs ≤ 2 ^ 40) : Builtin.Range.small lo hi 1 = true := by
  unfold Builtin.Range.small
  rw [rangeSize_eq]
  simp only [Builtin.Range.rangeFitsLong, Bool.and_eq_true, decide_eq_true_eq, show (1 : Int) > 0 by lia, if_true]
  simp at h1 h2
  simp
  lia

theorem isGlobalB_eq {f : Str} (h : isGlobalB g κ f = true) : κ f = some .globalImplicit ∧ g.val f = none ∧ g.isFn f = false := by
  simp only [isGlobalB, Bool.and_eq_true, beq_iff_eq, Option.isNone_iff_eq_none, Bool.not_eq_true'] at h
  exact ⟨h.1.1, h.1.2, h.2⟩
theorem evRange_ok {rec : Rec} (B : Base z prog w hT σ₀ n g) (R : RecOK z prog w hT σ₀ b n rec) (room : Room A n) {f : Str} {p pos : Pos} {args : List Expr} {q : List V × Hp} {lh : Int × Int} {Q : Value → Shared → Prop} (hf : f = "range") (hg : isGlobalB g κ f = true)
    (h1 : evs rec κ ρ args H = some q) (h2 : rangeArgs q.1 = some lh) (G : Good hT σ₀ κ ω ρ W env b σ H s.heap)
    (k : ∀ it h' (tk : Tok1 z) σ', WR hT σ' q.2 h' → IsRangeIter h' it lh.1 ((lh.2 - lh.1).toNat : Int) 1 → Ext z.x [] b σ s.heap σ' h' → s.heap.get? it = none → Q (.ref it) { s with heap := h', toks := tk.n, gens := tk.gs }) (ht : z.gp s.gens := by first | assumption | exact Tok1.pos _) :
    wpAny (model prog w) A (eval (.Call (.Name f p) args [] pos) env) (fun x s₁ => wpAny (model prog w) A (pyIter x) Q E s₁) E s := by
  have hg' := isGlobalB_eq hg
  have hb : bval f = some (.type "range") := by rw [hf]; decide +kernel
  show wpAny _ _ (eval (.Name f p) env >>= fun fv => callWith pos fv [] (backTo pos (starEach args env)) []) _ _ _
  refine wpAny_bind (global_ok B G hg'.1 (by rw [hf]; decide +kernel) (.inr ⟨hg'.2.1, hg'.2.2, _, hb, ?_⟩))
  refine callVal_ok R room (.inr ⟨_, rfl⟩) h1 G fun ws h' tk σ' wr' vs' ex => ?_
  -- the range's two ends
  have fin : ∀ (t u v : Tok) (tk' : Nat), lh.1.natAbs ≤ 2 ^ 40 → lh.2.natAbs ≤ 2 ^ 40 →
      wpAny (model prog w) A (pyIter (.ref h'.objs.size)) Q E { s with heap := h'.push { cls := .type "range", data := .fields #[.int lh.1 t, .int lh.2 u, .int 1 v] }, toks := tk', gens := tk.gs } := by
    intro t u v tk' l1 l2
    refine wpAny_pyIter_range (a := lh.1) (b := lh.2) (c := 1) (t := t) (u := u) (v := v) (Heap.get?_push_size _ rfl) (range_small l1 l2) ?_
    rw [rangeSize_eq]
    exact k _ _ ⟨tk', tk.gs, tk.pos⟩ σ' ((wr'.push _).push _) (Heap.get?_push_size _ rfl) ((ex.trans (Ext.push ..)).trans (Ext.push ..)) (fresh_of (ex.trans (Ext.push (xp := z.x) [] b σ' h' _)) (get_size _))
  rcases rangeArgs_eq h2 with ⟨n, e, hl, rfl⟩ | ⟨m, n, e, hl, hl2, rfl⟩
  · rw [e] at vs'
    obtain ⟨wv, rfl, hv⟩ := list_one vs'
    obtain ⟨t, rfl⟩ := hv.int_inv
    exact call_range_1 (fin _ _ _ _ (show (0 : Int).natAbs ≤ 2 ^ 40 by decide) hl)
  · rw [e] at vs'
    obtain ⟨w1, r1, rfl, hv, vr⟩ := vs'.cons_inv
    obtain ⟨w2, rfl, hv2⟩ := list_one vr
    obtain ⟨t, rfl⟩ := hv.int_inv
    obtain ⟨u, rfl⟩ := hv2.int_inv
    exact call_range_2 (fin _ _ _ _ hl hl2)
theorem evIter_ok {rec : Rec} (B : Base z prog w hT σ₀ n g) (R : RecOK z prog w hT σ₀ b n rec) (room : Room A n) {e : Expr} {items : List V} {c : Option Nat} {H' : Hp} {Q : Value → Shared → Prop} (he : evIter g rec κ ρ e H = some ((items, c), H'))
    (G : Good hT σ₀ κ ω ρ W env b σ H s.heap)
    (k : ∀ it h' (tk : Tok1 z) σ', WR hT σ' H' h' → It σ' h' it c items items → Ext z.x [] b σ s.heap σ' h' → s.heap.get? it = none → Q (.ref it) { s with heap := h', toks := tk.n, gens := tk.gs }) (ht : z.gp s.gens := by first | assumption | exact Tok1.pos _) :
    wpAny (model prog w) A (eval e env) (fun x s₁ => wpAny (model prog w) A (pyIter x) Q E s₁) E s := by
  obtain ⟨_, he⟩ := ite_eq he
  revert he
  cases hr : rangeCall e with
  | none =>
    intro he
    obtain ⟨p, h1, he⟩ := bind_eq he
    obtain ⟨q, h2, he⟩ := map_eq he
    cases he
    refine R.ok e κ ρ H p.1 p.2 h1 A ω W env σ s _ E room G fun w1 h1' tk1 σ1 wr1 v1 e1 => ?_
    refine items_ok (z := z) (b := b) h2 v1 wr1 fun it h' tk wr' hi ex hn => ?_
    exact k it h' ⟨tk, tk1.gs, tk1.pos⟩ σ1 wr' hi (e1.trans ex) (fresh_of e1 hn)
  | some fa =>
    intro he
    obtain ⟨f, args⟩ := fa
    obtain ⟨hf, p, pos, rfl⟩ := rangeCall_eq hr
    obtain ⟨hg, he⟩ := ite_eq he
    obtain ⟨q, h1, he⟩ := bind_eq he
    obtain ⟨lh, h2, he⟩ := map_eq he
    cases he
    exact evRange_ok B R room hf hg h1 h2 G fun it h' tk σ' wr' hi ex hn => k it h' tk σ' wr' (It.range hi) ex hn
end
end Mine
end

section
set_option autoImplicit false
set_option maxRecDepth 100000
namespace Mine
open PySem PyProof.Rows
section
variable {z : Zm} {prog : Program} {w : World} {hT : TT} {σ₀ : List Addr} {b n : Nat} {g : Glob} {A : Around} {E : Value → Shared → Prop} {s : Shared} {σ : List Addr} {H : Hp} {κ : Kap} {ω : Str → Bool} {ρ : Rho} {W : List Addr} {env : Env}

theorem exs_ok {recS : RecS} (RS : RecSOK z prog w hT σ₀ b n κ ω recS) (room : Room A n) : ∀ {body : List Stmt} {ρ ρ' : Rho} {H H' : Hp} {fl : Fl} {σ : List Addr} {s : Shared} {Q : Flow → Shared → Prop}, exs recS body ρ H = some (fl, ρ', H') →
    Good hT σ₀ κ ω ρ W env b σ H s.heap → KontS z hT σ₀ b κ ω W env σ fl ρ' H' Q s → (ht : z.gp s.gens := by first | assumption | exact Tok1.pos _) → wpAny (model prog w) A (execs body env) Q E s := by
  intro body
  induction body with
  | nil =>
    intro ρ ρ' H H' fl σ s Q he G k ht
    cases he
    exact wpAny_execs_nil (k .next s.heap ⟨s.toks, s.gens, ht⟩ σ G .next (Ext.refl ..))
  | cons st r ih =>
    intro ρ ρ' H H' fl σ s Q he G k ht
    obtain ⟨q, h1, he⟩ := bind_eq he
    obtain ⟨f1, ρ1, H1⟩ := q
    refine wpAny_execs_cons (RS.ok st ρ H f1 ρ1 H1 h1 A W env σ s _ E room G fun fw h' tk σ' G' hf e' => ?_)
    cases hf with
    | next => exact ih he G' (k.after (tk := tk) e')
    | brk => cases he; exact k _ h' tk σ' G' .brk e'
    | cont => cases he; exact k _ h' tk σ' G' .cont e'
    | ret hv => cases he; exact k _ h' tk σ' G' (.ret hv) e'

theorem It.cls {it : Addr} {c : Option Nat} {all rest : List V} {h : Heap} (x : It σ h it c all rest) : ∃ o T, h.get? it = some o ∧ o.cls = .type T ∧ (T = "list_iterator" ∨ T = "tuple_iterator" ∨ T = "str_ascii_iterator" ∨ T = "str_iterator" ∨ T = "range_iterator") := by
  cases x with
  | list _ q => obtain ⟨o, a, b, c⟩ := q; exact ⟨o, _, a, b, by simp⟩
  | tuple _ _ q => obtain ⟨o, a, b, c⟩ := q; exact ⟨o, _, a, b, by simp⟩
  | str ht q => obtain ⟨o, a, b, c⟩ := q; exact ⟨o, _, a, b, by rcases ht with rfl | rfl <;> simp⟩
  | range q => exact ⟨_, _, q, rfl, by simp⟩

theorem owned_ok {M : Model} {it : Addr} {c : Option Nat} {all rest : List V} {t : Expr} {v : Value} {Q : Unit → Shared → Prop} (x : It σ s.heap it c all rest) (k : Q () s) : wpAny M A (letOwnedTupleGo t (.ref it) v) Q E s := by
  obtain ⟨o, T, e1, e2, e3⟩ := x.cls
  unfold letOwnedTupleGo
  split
  case h_3 => exact wpAny_pure k
  all_goals
    cases v with
    | ref a =>
      refine wpAny_bind (wpAny_load e1 ?_)
      rw [e2]
      split
      · rename_i m vs heq _
        cases heq
        rw [if_neg (by rcases e3 with rfl | rfl | rfl | rfl | rfl <;> simp)]
        exact wpAny_pure k
      · exact wpAny_pure k
    | _ => exact wpAny_pure k

theorem wpAny_keepIt {W' : List Addr} {σ' : List Addr} {h h' : Heap} {it : Addr} {c : Option Nat} {all rest : List V} (x : It σ h it c all rest) (wr : WR hT σ H h) (e : Ext z.x W' b σ h σ' h') (hw : ∀ a ∈ W', ∃ o, h.get? a = some o ∧ (∀ arr n, o.data ≠ .seq arr n)) (hit : it ∉ W') (hp : notP it) : It σ' h' it c all rest := by
  obtain ⟨o, eo, hd⟩ := x.obj
  exact x.keep e.prefix (e.tupsW wr hw) fun o' e' => e.keep it o' e' hit (fun hm => wr.not_of_data eo hd (List.mem_of_mem_drop hm)) fun _ => hp

/-- a step that changes the iterator alone -/
theorem Good.but {it : Addr} {h h' : Heap} {o : Obj} (G : Good hT σ₀ κ ω ρ W env b σ H h) (kk : ∀ a o, h.get? a = some o → a ≠ it → h'.get? a = some o) (ho : h.get? it = some o) (hd : ∀ arr n, o.data ≠ .seq arr n) (hW : it ∉ W)
    (hL : it ≠ env.locals) (hC : ∀ x c, (κ x = some .cell ∨ κ x = some .free) → env.cells.lookup x = some c → it ≠ c) (ht : hT.get? it = none) (hp : notP it) : Good hT σ₀ κ ω ρ W env b σ H h' := by
  have tu := Tups.but kk ho hd
  refine ⟨G.code, G.wr.but kk ho hd ht hp, ⟨G.env.fn, G.env.kind, G.env.glob, G.env.blt, ?_, ?_, G.env.inj, G.env.own, G.env.loc, ?_, G.env.wp⟩, G.base, G.above, G.wabove, G.tab⟩
  · obtain ⟨m, ⟨oL, es, ep, e1, e2⟩, hv⟩ := G.env.ns
    refine ⟨m, ⟨oL, es, ep, kk _ _ e1 (Ne.symm hL), e2⟩, fun y v hk hy => ?_⟩
    obtain ⟨wv, f1, f2⟩ := hv y v hk hy
    exact ⟨wv, f1, f2.mono (prefix_same _) tu⟩
  · intro y hy
    obtain ⟨c', v₀, e1, ⟨oc, e2, e2'⟩, e3⟩ := G.env.cell y hy
    refine ⟨c', v₀, e1, ⟨oc, kk _ _ e2 (Ne.symm (hC y c' hy e1)), e2'⟩, fun v hv => ?_⟩
    obtain ⟨wv, f4, f5⟩ := e3 v hv
    exact ⟨wv, f4, f5.mono (prefix_same _) tu⟩
  · intro a ha
    obtain ⟨oa, e1, e2⟩ := G.env.wobj a ha
    exact ⟨oa, kk _ _ e1 fun q => hW (by rw [← q]; exact ha), e2⟩
/-- what stood before the iterator was made stands -/
theorem Ext.but {W' : List Addr} {it : Addr} {σs : List Addr} {hs h h' : Heap} (ex : Ext z.x W' b σs hs σ h) (kk : ∀ a o, h.get? a = some o → a ≠ it → h'.get? a = some o) (hits : hs.get? it = none) : Ext z.x W' b σs hs σ h' := by
  have ne : ∀ a o, hs.get? a = some o → a ≠ it := fun a o e q => by subst q; rw [hits] at e; exact nn e
  exact ⟨ex.pre, fun a o e => let ⟨o2, e2⟩ := ex.there a o e; ⟨o2, kk _ _ e2 (ne a o e)⟩, fun a o e hw hdr hp => kk _ _ (ex.keep a o e hw hdr hp) (ne a o e)⟩

theorem loopS_cons {c : Option Nat} {all xs : List V} {f : V → Rho → Hp → Option (Fl × Rho × Hp)} {x : V} {ρ ρ' : Rho} {H H' : Hp} {fl : Fl} (h : loopS c all f (x :: xs) ρ H = some (fl, ρ', H')) :
    chk c all H = true ∧ ∃ f1 ρ1 H1, f x ρ H = some (f1, ρ1, H1) ∧ (((f1 = .next ∨ f1 = .cont) ∧ loopS c all f xs ρ1 H1 = some (fl, ρ', H')) ∨ (f1 = .brk ∧ fl = .next ∧ ρ' = ρ1 ∧ H' = H1) ∨ ∃ v, f1 = .ret v ∧ fl = .ret v ∧ ρ' = ρ1 ∧ H' = H1) := by
  obtain ⟨hc, h⟩ := ite_eq h
  obtain ⟨q, h1, h⟩ := bind_eq h
  obtain ⟨f1, ρ1, H1⟩ := q
  refine ⟨hc, f1, ρ1, H1, h1, ?_⟩
  cases f1 with
  | next => exact .inl ⟨.inl rfl, h⟩
  | cont => exact .inl ⟨.inr rfl, h⟩
  | brk => cases h; exact .inr (.inl ⟨rfl, rfl, rfl, rfl⟩)
  | ret v => cases h; exact .inr (.inr ⟨v, rfl, rfl, rfl, rfl⟩)

noncomputable def turnS (ω : Str → Bool) (recS : RecS) (t : Expr) (body : List Stmt) : V → Rho → Hp → Option (Fl × Rho × Hp) := fun x ρ h => (bindT ω t x ρ).bind fun ρ' => exs recS body ρ' h
/-- what a for's turn starts from -/
noncomputable def ForInv (z : Zm) (hT : TT) (σ₀ : List Addr) (b : Nat) (κ : Kap) (ω : Str → Bool) (W : List Addr) (env : Env) (recS : RecS) (t : Expr) (body : List Stmt) (it : Addr) (c : Option Nat) (all : List V) (r : Fl × Rho × Hp) (hs : Heap) (σs : List Addr) (s : Shared) (m : Nat) (s₁ : Shared) : Prop :=
  ∃ rest ρ H σ h, ∃ tk : Tok1 z, m = rest.length ∧ s₁ = { s with heap := h, toks := tk.n, gens := tk.gs } ∧ loopS c all (turnS ω recS t body) rest ρ H = some r ∧ Good hT σ₀ κ ω ρ W env b σ H h ∧ It σ h it c all rest ∧ Ext z.x W b σs hs σ h

/-- a for's turns -/
theorem for_turns {recS : RecS} (RS : RecSOK z prog w hT σ₀ b n κ ω recS) (room : Room A n) {t : Expr} {body : List Stmt} {it : Addr} {c : Option Nat} {all : List V} {fl : Fl} {ρ' : Rho} {H' : Hp} {hs : Heap} {σs : List Addr} {Q : Flow → Shared → Prop}
    (hitW : it ∉ W) (hitL : it ≠ env.locals) (hitC : ∀ x c, (κ x = some .cell ∨ κ x = some .free) → env.cells.lookup x = some c → it ≠ c) (hitT : hT.get? it = none) (hits : hs.get? it = none) (hitP : notP it)
    (k : ∀ fw h' (tk : Tok1 z) σ', Good hT σ₀ κ ω ρ' W env b σ' H' h' → FR σ' h' fl fw → Ext z.x W b σs hs σ' h' → Q fw { s with heap := h', toks := tk.n, gens := tk.gs }) :
    ∀ {rest : List V} {ρ : Rho} {H : Hp} {σ : List Addr} {h : Heap} {tk : Tok1 z}, loopS c all (turnS ω recS t body) rest ρ H = some (fl, ρ', H') →
      Good hT σ₀ κ ω ρ W env b σ H h → It σ h it c all rest → Ext z.x W b σs hs σ h →
      codeAny (model prog w) A (.forLoop t (.ref it) body [] env) (fun r s' => match r with | .ok f => Q f s' | .error e => cameBackBy (model prog w) A env E e s') { s with heap := h, toks := tk.n, gens := tk.gs } := by
  intro rest ρ H σ h tk he G hi ex
  refine codeAny_loop' rfl (ForInv z hT σ₀ b κ ω W env recS t body it c all (fl, ρ', H') hs σs s) ?_ rest.length ⟨rest, ρ, H, σ, h, tk, rfl, rfl, he, G, hi, ex⟩
  rintro m s₁ ⟨rest, ρ, H, σ, h, tk, rfl, rfl, he, G, hi, ex⟩
  show wpAny _ _ ((forTurn t (.ref it) body [] env).onRaise (fun x => do noteFrame x env; theTreesLotGoes x)) _ _ _
  refine wpAny_noted ?_
  have hA : Around.under A (.forLoop t (.ref it) body [] env) = A := Around.under_of_weight rfl
  rw [hA]
  unfold forTurn
  refine wpAny_bind (wpAny_standAt (wpAny_bind (wpAny_onRaise ?_)))
  obtain ⟨o, eo, hd⟩ := hi.obj
  cases rest with
  | nil =>
    obtain ⟨hc, he⟩ := ite_eq he
    cases he
    refine next_end (s := { s with heap := h, toks := tk.n, gens := tk.gs }) room.hh hi hc G.wr fun h' hx => ?_
    refine wpAny_pure (.inr ⟨rfl, codeAny_block (wpAny_execs_nil ?_)⟩)
    have kk : ∀ a o, h.get? a = some o → a ≠ it → h'.get? a = some o := fun a o e q => hx a o q e
    exact k .next h' tk σ (G.but kk eo hd hitW hitL hitC hitT hitP) .next (ex.but kk hits)
  | cons x xs =>
    obtain ⟨hc, f1, ρ1, H1, h1, hcase⟩ := loopS_cons he
    obtain ⟨ρ2, hb, hb2⟩ := bind_eq h1
    refine next_item (s := { s with heap := h, toks := tk.n, gens := tk.gs }) hi hc G.wr fun wv h' tk' hv hi' hsb => ?_
    have G' : Good hT σ₀ κ ω ρ W env b σ H h' := G.but (same_but hsb) eo hd hitW hitL hitC hitT hitP
    have ex' : Ext z.x W b σs hs σ h' := ex.but (same_but hsb) hits
    refine wpAny_bind (owned_ok (s := { s with heap := h', toks := tk', gens := tk.gs }) hi' (wpAny_bind (assign_ok (z := z) (s := { s with heap := h', toks := tk', gens := tk.gs }) hb room.hh G' hv fun h2 tk2 G2 e2 => ?_)))
    have hi2 := wpAny_keepIt hi' G'.wr e2 G'.env.wobj hitW hitP
    refine wpAny_bind (exs_ok (s := { s with heap := h2, toks := tk2, gens := tk.gs }) RS room hb2 G2 fun fw h3 tk3 σ3 G3 hf e3 => ?_)
    have hi3 := wpAny_keepIt hi2 G2.wr e3 G2.env.wobj hitW hitP
    have ex3 := (ex'.trans e2).trans e3
    rcases hcase with ⟨hn, hl⟩ | ⟨rfl, rfl, rfl, rfl⟩ | ⟨v, rfl, rfl, rfl, rfl⟩
    · have inv : ForInv z hT σ₀ b κ ω W env recS t body it c all (fl, ρ', H') hs σs s xs.length { s with heap := h3, toks := tk3.n, gens := tk3.gs } := ⟨xs, ρ1, H1, σ3, h3, tk3, rfl, rfl, hl, G3, hi3, ex3⟩
      rcases hn with rfl | rfl
      · cases hf; exact wpAny_pure (.inl ⟨rfl, xs.length, Nat.lt_succ_self _, inv⟩)
      · cases hf; exact wpAny_pure (.inl ⟨rfl, xs.length, Nat.lt_succ_self _, inv⟩)
    · cases hf; exact wpAny_pure (k .next h3 tk3 σ3 G3 .next ex3)
    · cases hf with | ret hv => exact wpAny_pure (k _ h3 tk3 σ3 G3 (.ret hv) ex3)
end
end Mine
end

section
set_option autoImplicit false
set_option maxRecDepth 100000
namespace Mine
open PySem PyProof.Rows

theorem get_ge {h : Heap} {a : Addr} (ha : h.objs.size ≤ a) : h.get? a = none := by
  cases q : h.get? a with
  | none => rfl
  | some o => exact absurd (Heap.lt_size q) (Nat.not_lt.mpr ha)


/-! ### a comprehension's frame -/
noncomputable def closOf (cells : List (Str × Addr)) : List (Str × NameKind) → List (Str × Addr) → List (Str × Addr)
  | [], acc => acc
  | (x, k) :: r, acc => if k == .free then closOf cells r ((x, (cells.lookup x).getD 0) :: acc) else closOf cells r acc

theorem clos_cons (cells : List (Str × Addr)) (x : Str) (k : NameKind) (r : List (Str × NameKind)) (acc : List (Str × Addr)) : closOf cells ((x, k) :: r) acc = if k == .free then closOf cells r ((x, (cells.lookup x).getD 0) :: acc) else closOf cells r acc := rfl
theorem cellsFrom_cons (n : Nat) (x : Str) (k : NameKind) (r : List (Str × NameKind)) (acc : List (Str × Addr)) : cellsFrom n ((x, k) :: r) acc = if k == .cell then cellsFrom (n + 1) r ((x, n) :: acc) else cellsFrom n r acc := rfl
theorem clos_mem {cells : List (Str × Addr)} {names : List (Str × NameKind)} {x : Str} {c : Addr} : ∀ {acc : List (Str × Addr)}, (x, c) ∈ closOf cells names acc → (x, c) ∈ acc ∨ ((x, NameKind.free) ∈ names ∧ c = (cells.lookup x).getD 0) := by
  induction names with
  | nil => exact fun h => .inl h
  | cons p r ih =>
    intro acc h
    obtain ⟨y, k⟩ := p
    rw [clos_cons] at h
    by_cases hk : (k == .free) = true
    · rw [if_pos hk] at h
      rcases ih h with q | ⟨q1, q2⟩
      · rcases List.mem_cons.mp q with e | e
        · cases e; exact .inr ⟨by rw [beq_iff_eq.mp hk]; exact List.mem_cons_self, rfl⟩
        · exact .inl e
      · exact .inr ⟨List.mem_cons_of_mem _ q1, q2⟩
    · rw [if_neg hk] at h
      rcases ih h with q | ⟨q1, q2⟩
      · exact .inl q
      · exact .inr ⟨List.mem_cons_of_mem _ q1, q2⟩
theorem lookup_push {x y : Str} {k l : NameKind} {r : List (Str × NameKind)} {acc : List (Str × Addr)} {c : Addr} (h : (acc.lookup x).isSome = true ∨ (x, l) ∈ (y, k) :: r) : (((y, c) :: acc).lookup x).isSome = true ∨ (x, l) ∈ r := by
  rw [List.lookup_cons]
  by_cases e : (x == y) = true
  · rw [e]; exact .inl rfl
  · rw [Bool.eq_false_iff.mpr e]
    rcases h with h | h
    · exact .inl h
    · rcases List.mem_cons.mp h with q | q
      · cases q; exact (e (beq_self_eq_true x)).elim
      · exact .inr q
theorem mem_rest {x y : Str} {k l : NameKind} {r : List (Str × NameKind)} {P : Prop} (hk : ¬(k == l) = true) (h : P ∨ (x, l) ∈ (y, k) :: r) : P ∨ (x, l) ∈ r := by
  rcases h with h | h
  · exact .inl h
  · rcases List.mem_cons.mp h with q | q
    · cases q; exact (hk (beq_self_eq_true _)).elim
    · exact .inr q
theorem clos_has {cells : List (Str × Addr)} {x : Str} (names : List (Str × NameKind)) : ∀ (acc : List (Str × Addr)), (acc.lookup x).isSome = true ∨ (x, NameKind.free) ∈ names → ((closOf cells names acc).lookup x).isSome = true := by
  induction names with
  | nil => exact fun _ h => h.elim id fun q => nomatch q
  | cons p r ih =>
    intro acc h
    obtain ⟨y, k⟩ := p
    rw [clos_cons]
    by_cases hk : (k == .free) = true
    · rw [if_pos hk]; exact ih _ (lookup_push h)
    · rw [if_neg hk]; exact ih _ (mem_rest hk h)

theorem cells_append (names : List (Str × NameKind)) : ∀ (n : Nat) (acc : List (Str × Addr)), cellsFrom n names acc = cellsFrom n names [] ++ acc := by
  induction names with
  | nil => exact fun _ _ => rfl
  | cons p r ih =>
    intro n acc
    obtain ⟨y, k⟩ := p
    rw [cellsFrom_cons, cellsFrom_cons]
    by_cases hk : (k == .cell) = true
    · rw [if_pos hk, if_pos hk, ih (n + 1) ((y, n) :: acc), ih (n + 1) [(y, n)], List.append_assoc]; rfl
    · rw [if_neg hk, if_neg hk]; exact ih n acc
theorem cells_kind {names : List (Str × NameKind)} {x : Str} {c : Addr} : ∀ {n : Nat} {acc : List (Str × Addr)}, (x, c) ∈ cellsFrom n names acc → (x, c) ∈ acc ∨ (x, NameKind.cell) ∈ names := by
  induction names with
  | nil => exact fun h => .inl h
  | cons p r ih =>
    intro n acc h
    obtain ⟨y, k⟩ := p
    rw [cellsFrom_cons] at h
    by_cases hk : (k == .cell) = true
    · rw [if_pos hk] at h
      rcases ih h with q | q
      · rcases List.mem_cons.mp q with e | e
        · cases e; exact .inr (by rw [beq_iff_eq.mp hk]; exact List.mem_cons_self)
        · exact .inl e
      · exact .inr (List.mem_cons_of_mem _ q)
    · rw [if_neg hk] at h
      exact (ih h).imp id (List.mem_cons_of_mem _)
theorem cells_has {x : Str} (names : List (Str × NameKind)) : ∀ (n : Nat) (acc : List (Str × Addr)), (acc.lookup x).isSome = true ∨ (x, NameKind.cell) ∈ names → ((cellsFrom n names acc).lookup x).isSome = true := by
  induction names with
  | nil => exact fun _ _ h => h.elim id fun q => nomatch q
  | cons p r ih =>
    intro n acc h
    obtain ⟨y, k⟩ := p
    rw [cellsFrom_cons]
    by_cases hk : (k == .cell) = true
    · rw [if_pos hk]; exact ih _ _ (lookup_push h)
    · rw [if_neg hk]; exact ih _ _ (mem_rest hk h)

theorem lookup_map_kind (f : Str → NameKind → NameKind) (x : Str) : ∀ (names : List (Str × NameKind)), (names.map fun p => (p.1, f p.1 p.2)).lookup x = (names.lookup x).map (f x)
  | [] => rfl
  | (y, k) :: r => by
    rw [List.map_cons, List.lookup_cons, List.lookup_cons, lookup_map_kind f x r]
    cases h : x == y with
    | true => rw [beq_iff_eq.mp h]; rfl
    | false => rfl

section
variable {M : Model} {A : Around} {E : Value → Shared → Prop} {s : Shared} {env : Env}

theorem clos_walk (f : Str × NameKind → List (Str × Addr) → Sem (ForInStep (List (Str × Addr))))
    (hf : ∀ name kind cs, f (name, kind) cs = if kind == .free then (do let c ← cellOf env name; pure (.yield ((name, c) :: cs))) else pure (.yield cs)) :
    ∀ (names : List (Str × NameKind)) (acc : List (Str × Addr)) (Q : List (Str × Addr) → Shared → Prop), (∀ p ∈ names, p.2 = .free → (env.cells.lookup p.1).isSome = true) → Q (closOf env.cells names acc) s → wpAny M A (forIn names acc f) Q E s := by
  intro names
  induction names with
  | nil => intro acc Q _ h; rw [List.forIn_nil]; exact wpAny_pure h
  | cons p r ih =>
    intro acc Q hall h
    obtain ⟨x, k⟩ := p
    rw [List.forIn_cons, hf]
    rw [clos_cons] at h
    by_cases hk : (k == .free) = true
    · rw [if_pos hk] at h ⊢
      obtain ⟨c, hc⟩ := Option.isSome_iff_exists.mp (hall (x, k) List.mem_cons_self (beq_iff_eq.mp hk))
      refine wpAny_bind (wpAny_bind (wpAny_cellOf hc (wpAny_pure ?_)))
      refine ih _ Q (fun p hp => hall p (List.mem_cons_of_mem _ hp)) ?_
      rw [hc] at h
      exact h
    · rw [if_neg hk] at h ⊢
      exact wpAny_bind (wpAny_pure (ih _ Q (fun p hp => hall p (List.mem_cons_of_mem _ hp)) h))

theorem closure_ok {scope : Scope} {Q : List (Str × Addr) → Shared → Prop} (hall : ∀ p ∈ scope.names, p.2 = .free → (env.cells.lookup p.1).isSome = true) (h : Q (closOf env.cells scope.names []) s) : wpAny M A (closureFor scope env) Q E s := by
  simp only [closureFor]
  refine wpAny_bind (clos_walk _ (fun name kind cs => by cases hk : kind == NameKind.free <;> simp [hk]) _ _ _ hall ?_)
  exact wpAny_pure h

theorem newEnv_ok {scope : Scope} {globals : Addr} {clo : List (Str × Addr)} {qual : Str} {Q : Env → Shared → Prop}
    (h : Q { scope, locals := s.heap.objs.size, globals, cells := cellsFrom (s.heap.objs.size + 1) scope.names clo, qual, func := none, code := env.code, frame := env.frame, builtins := env.builtins }
      { s with heap := pushCells (s.heap.push { cls := .type "dict", data := .dict #[] }) scope.names }) : wpAny M A (newFunctionEnv scope globals clo [] qual none .none (some env)) Q E s := by
  simp only [newFunctionEnv, Option.isSome_some, if_true]
  refine wpAny_bind (wpAny_alloc ?_)
  refine wpAny_bind (wpAny_layCells _ (fun name kind cells => by cases hkc : kind == NameKind.cell <;> simp [hkc]) _ _ _ _ ?_)
  rw [show ({ s with heap := s.heap.push { cls := .type "dict", data := .dict #[] } } : Shared).heap.objs.size = s.heap.objs.size + 1 from Heap.size_push ..]
  refine wpAny_bind ?_
  rw [List.forIn_nil]
  exact wpAny_pure (wpAny_pure h)

/-- the scope in which a comprehension's parts stand -/
noncomputable def compScope (scope : Scope) (env : Env) : Scope := { scope with names := scope.names.map fun (n, k) => if k == .free && env.scope.kind == .function && env.kindOf n == some .cell then (n, .cell) else (n, k) }

theorem comp_rule {e : Expr} {scope : Scope} {pos : Pos} {newAcc first : Sem Value} {g : Comprehension} {gs : List Comprehension} {Q : Value → Shared → Prop} {use : Option (Value → Sem Unit)}
    (hcl : clausesOf e = g :: gs) (hs : ∀ x, foldedSetIterable g.iter env x = pure x) (hkind : scope.kind = .function) (hnames : ∀ x ∈ scope.names, x.2 = .local → (compScope scope env).names.lookup x.1 = some .local)
    (h : wpAny M A first (fun x s₁ => wpAny M A (pyIter x) (fun it s₂ => wpAny M A newAcc (fun acc s₃ => wpAny M A (closureFor scope env) (fun clo s₄ =>
      wpAny M A (newFunctionEnv scope env.globals clo [] env.qual none .none (some env)) (fun cenv s₅ =>
        codeAny M A (.compStart e 0 it acc { cenv with scope := compScope scope env }) (fun r s' => ∃ m, s'.heap.Ns cenv.locals m ∧
          match r, use with
          | .ok _, none => ∀ h' m', h'.Ns cenv.locals m' → Heap.SameBut cenv.locals s'.heap h' → Q acc { s' with heap := h' }
          | .ok _, some u => wpAny M A (u acc) (fun _ s'' => ∃ m, s''.heap.Ns cenv.locals m ∧ ∀ h' m', h'.Ns cenv.locals m' → Heap.SameBut cenv.locals s''.heap h' → Q .none { s'' with heap := h' }) E s'
          | .error _, _ => False) s₅) E s₄) E s₃) E s₂) E s₁) E s) :
    wpAny M A (comprehension e scope env pos newAcc false first use) Q E s := by
  unfold comprehension
  rw [hcl]
  refine wpAny_bind (wpAny_mono h (fun x s₁ h₁ => wpAny_bind (wpAny_standAt (wpAny_bind (wpAny_of_eq (hs x) (wpAny_bind (wpAny_holding (wpAny_mono h₁ (fun it s₂ h₂ =>
    wpAny_standIf (wpAny_bind (wpAny_mono h₂ (fun acc s₃ h₃ => wpAny_bind (wpAny_mono h₃ (fun clo s₄ h₄ => wpAny_bind (wpAny_mono h₄ (fun cenv s₅ h₅ => ?_) fun _ _ h' => h')) fun _ _ h' => h')) fun _ _ h' => h')))
      fun _ _ h' => h'))))))) fun _ _ h' => h')
  dsimp only
  have hv : ∀ vs : List (Str × NameKind), (∀ x ∈ vs, x ∈ scope.names) → ∀ x ∈ vs, x.2 = .local → Env.kindOf { cenv with scope := compScope scope env } x.1 = some .local := fun vs hvs x hx hl => hnames x (hvs x hx) hl
  have hsub : ∀ x ∈ (scope.names.filter fun x => (x.2 == .local || x.2 == .cell) && x.1 != (".0" : Str)).reverse, x ∈ scope.names := fun x hx => (List.mem_filter.mp (List.mem_reverse.mp hx)).1
  refine wpAny_holding (wpAny_bind (wpAny_attempt (wpAny_holding (wpAny_run (codeAny_mono h₅ fun r s' hr => ?_)))))
  obtain ⟨m, hn, hr⟩ := hr
  cases r with
  | ok f =>
    cases use with
    | none => exact wpAny_bind (wpAny_holding (wpAny_comp_letGo (cenv := { cenv with scope := compScope scope env }) hkind _ s' m (hv _ hsub) hn fun h' m' hm' hs' => wpAny_pure (hr h' m' hm' hs')))
    | some u =>
      refine wpAny_bind (wpAny_rule (wpAny_bind (wpAny_holding (wpAny_mono hr (fun _ s'' h'' => ?_) fun _ _ h' => h'))))
      obtain ⟨m2, hn2, hq⟩ := h''
      refine wpAny_bind (wpAny_comp_letGo (cenv := { cenv with scope := compScope scope env }) hkind _ s'' m2 (hv _ fun x hx => ?_) hn2 fun h' m' hm' hs' => wpAny_pure (hq h' m' hm' hs'))
      rcases List.mem_append.mp hx with q | q
      · exact hsub x (List.mem_of_mem_drop q)
      · exact hsub x (List.mem_of_mem_take q)
  | error x => exact hr.elim
end
end Mine
end

section
set_option autoImplicit false
set_option maxRecDepth 100000
namespace Mine
open PySem PyProof.Rows
section
variable {z : Zm} {prog : Program} {w : World} {hT : TT} {σ₀ : List Addr} {b n : Nat} {g : Glob} {A : Around} {E : Value → Shared → Prop} {s : Shared} {σ : List Addr} {H : Hp} {κ : Kap} {ω : Str → Bool} {ρ : Rho} {W : List Addr} {env : Env}

theorem ifs_false {M : Model} {Q : Bool → Shared → Prop} (f : Expr → Bool → Sem (ForInStep Bool)) (hf : ∀ c, f c false = pure (.yield false)) (h : Q false s) : ∀ es : List Expr, wpAny M A (forIn es false f) Q E s
  | [] => by rw [List.forIn_nil]; exact wpAny_pure h
  | e :: r => by
    rw [List.forIn_cons, hf]
    exact wpAny_bind (wpAny_pure (ifs_false f hf h r))
theorem ifs_ok {recT : RecT} (RT : RecTOK z prog w hT σ₀ b n recT) (room : Room A n) (f : Expr → Bool → Sem (ForInStep Bool)) (hf0 : ∀ c, f c false = pure (.yield false)) (hf1 : ∀ c, f c true = (isTrue c env (eval c env) >>= fun r => pure (.yield r))) :
    ∀ {es : List Expr} {t : Bool} {H H' : Hp} {σ : List Addr} {s : Shared} {Q : Bool → Shared → Prop}, tsts recT κ ρ es H = some (t, H') → Good hT σ₀ κ ω ρ W env b σ H s.heap → KontB z hT b σ t H' Q s → (ht : z.gp s.gens := by first | assumption | exact Tok1.pos _) → wpAny (model prog w) A (forIn es true f) Q E s := by
  intro es
  induction es with
  | nil =>
    intro t H H' σ s Q he G k ht
    cases he
    rw [List.forIn_nil]
    exact wpAny_pure (k s.heap ⟨s.toks, s.gens, ht⟩ σ G.wr (Ext.refl ..))
  | cons e r ih =>
    intro t H H' σ s Q he G k ht
    obtain ⟨p, h1, he⟩ := bind_eq he
    rw [List.forIn_cons, hf1]
    refine wpAny_bind (wpAny_bind (RT.ok e κ ρ H p.1 p.2 h1 A ω W env σ s _ E room G fun h' tk σ' wr' ex => wpAny_pure ?_))
    obtain ⟨c, Hc⟩ := p
    cases c with
    | true => exact ih he (G.step wr' ex) (k.after (tk := tk) ex)
    | false => cases he; exact ifs_false f hf0 (k h' tk σ' wr' ex) r

theorem compStart_ok {e : Expr} {depth : Nat} {it : Addr} {acc : Value} {c : Option Nat} {all rest : List V} {R : Result → Shared → Prop} (he : ∃ elt gens scope pos, e = .ListComp elt gens scope pos) (ha : ((clausesOf e)[depth]?).elim false (·.is_async != 0) = false) (hi : It σ s.heap it c all rest)
    (h : codeAny (model prog w) A (.compLoop e depth (.ref it) acc env) R s) : codeAny (model prog w) A (.compStart e depth (.ref it) acc env) R s := by
  obtain ⟨elt, gens, scope, pos, rfl⟩ := he
  refine codeAny_of_tree ?_
  show wpAny _ _ ((compStart (.ListComp elt gens scope pos) depth (.ref it) acc env).onRaise (fun x => do noteFrame x env; standAt theWindowsPlace)) _ _ s
  refine wpAny_notedAt ?_
  unfold compStart
  rw [ha]
  simp only [Bool.false_eq_true, if_false]
  refine wpAny_bind (wpAny_askSetting (wpAny_ite ?_))
  split
  · exact wpAny_pure (And.intro rfl h)
  · refine wpAny_bind (wpAny_rule ?_)
    split
    · exact wpAny_bind (wpAny_standAt (wpAny_bind (iter_self hi (wpAny_pure (And.intro rfl h)))))
    · exact wpAny_bind (iter_self hi (wpAny_pure (And.intro rfl h)))

theorem Good.weaken {ρ' : Rho} {h : Heap} (G : Good hT σ₀ κ ω ρ' W env b σ H h) (hsub : ∀ y v, ρ y = some v → ρ' y = some v) : Good hT σ₀ κ ω ρ W env b σ H h := by
  refine ⟨G.code, G.wr, ⟨G.env.fn, G.env.kind, G.env.glob, G.env.blt, ?_, ?_, G.env.inj, G.env.own, G.env.loc, G.env.wobj, G.env.wp⟩, G.base, G.above, G.wabove, G.tab⟩
  · obtain ⟨m, hm, hv⟩ := G.env.ns
    exact ⟨m, hm, fun x v hx hy => hv x v hx (hsub x v hy)⟩
  · intro x hx
    obtain ⟨c, v₀, e1, e2, e3⟩ := G.env.cell x hx
    exact ⟨c, v₀, e1, e2, fun v hv => e3 v (hsub x v hv)⟩

theorem fresh_sub {t : Expr} {v : V} {ρ' : Rho} (hf : freshT t ρ = true) (hb : bindT ω t v ρ = some ρ') : ∀ y u, ρ y = some u → ρ' y = some u := by
  cases t
  case Name x p =>
    obtain ⟨_, hb⟩ := ite_eq hb
    cases hb
    intro y u hy
    by_cases q : y = x
    · subst q; rw [Option.isNone_iff_eq_none.mp hf] at hy; exact nn hy
    · rw [upd_other _ _ q]; exact hy
  all_goals exact ft hf

theorem loopL_cons {c : Option Nat} {all xs : List V} {f : V → Hp → Option Hp} {x : V} {H H' : Hp} (h : loopL c all f (x :: xs) H = some H') : chk c all H = true ∧ ∃ H1, f x H = some H1 ∧ loopL c all f xs H1 = some H' := by
  obtain ⟨hc, h⟩ := ite_eq h
  obtain ⟨q, h1, h⟩ := bind_eq h
  exact ⟨hc, q, h1, h⟩
end
end Mine
end

section
set_option autoImplicit false
set_option maxRecDepth 100000
namespace Mine
open PySem PyProof.Rows

/-- the small reading's turn of a comprehension -/
noncomputable def turnF (g : Glob) (rec : Rec) (recT : RecT) (ω : Str → Bool) (elt : Expr) (acc : Nat) (κ : Kap) (g1 : Comprehension) (rest : List Comprehension) (ρ : Rho) (x : V) (h : Hp) : Option Hp :=
  (bindT ω g1.target x ρ).bind fun ρ' => (tsts recT κ ρ' g1.ifs h).bind fun p => if p.1 then cgo g rec recT ω elt acc κ rest ρ' p.2 else some p.2

section
variable {z : Zm} {prog : Program} {w : World} {hT : TT} {σ₀ : List Addr} {b n : Nat} {g : Glob} {A : Around} {κ : Kap} {ω : Str → Bool} {W : List Addr} {env : Env} {rec : Rec} {recT : RecT} {elt : Expr} {gens : List Comprehension} {scope : Scope} {pos : Pos} {acc : Nat} {r : Addr}

theorem drop_next {α : Type} {xs : List α} {i : Nat} {a : α} {rest : List α} (h : xs.drop i = a :: rest) : xs[i]? = some a ∧ xs[i + 1]? = rest.head? ∧ xs.drop (i + 1) = rest := by
  obtain ⟨h1, h2⟩ := drop_cons h
  refine ⟨h1, ?_, h2.symm⟩
  rw [h2, List.head?_drop]

/-- a loop's end: the iterator alone has changed -/
theorem loop_end {κ : Kap} {ω : Str → Bool} {W : List Addr} {env : Env} {ρ : Rho} {it : Addr} {H : Hp} {σ σs : List Addr} {h h' hs : Heap} {o : Obj} (G : Good hT σ₀ κ ω ρ W env b σ H h) (eo : h.get? it = some o) (hd : ∀ arr n, o.data ≠ .seq arr n) (hitW : it ∉ W) (hitL : it ≠ env.locals)
    (hitC : ∀ x c, (κ x = some .cell ∨ κ x = some .free) → env.cells.lookup x = some c → it ≠ c) (hitT : hT.get? it = none) (hitP : notP it) (hits : hs.get? it = none) (ex : Ext z.x W b σs hs σ h) (hx : Heap.ExtBut it h h') :
    Good hT σ₀ κ ω ρ W env b σ H h' ∧ Ext z.x W b σs hs σ h' := by
  have kk : ∀ a o, h.get? a = some o → a ≠ it → h'.get? a = some o := fun a o e q => hx a o q e
  exact ⟨G.but kk eo hd hitW hitL hitC hitT hitP, ex.but kk hits⟩

/-- what a turn does behind its tests, and what follows -/
noncomputable def inner (elt : Expr) (gens : List Comprehension) (scope : Scope) (pos : Pos) (depth : Nat) (r : Addr) (env : Env) (kt : Sem Fin) (g' : Option Comprehension) : Sem Fin :=
  match g' with
  | some g' => do
    let x ← eval g'.iter env
    standAt g'.iter.pos
    if (g'.is_async != 0) = true then do
        let x ← foldedIterable g'.iter x
        let l ← holding [x] (if (g'.is_async != 0) = true then asyncIter x else pyIter x)
        let _ ← runOwn (Code.compStart (elt.ListComp gens scope pos) (depth + 1) l (Value.ref r) env) env
        kt
      else do
        let x ← foldedSetIterable g'.iter env x
        let l ← holding [x] (if (g'.is_async != 0) = true then asyncIter x else pyIter x)
        let _ ← runOwn (Code.compStart (elt.ListComp gens scope pos) (depth + 1) l (Value.ref r) env) env
        kt
  | none => (eval elt env >>= fun l => call (Value.builtin "list.append") [Value.ref r, l] >>= fun _ => pure ()) >>= fun _ => kt

/-- what a comprehension's turn starts from -/
noncomputable def CompInv (z : Zm) (hT : TT) (σ₀ : List Addr) (b : Nat) (κ : Kap) (ω : Str → Bool) (ρ : Rho) (W : List Addr) (env : Env) (f : V → Hp → Option Hp) (it : Addr) (c : Option Nat) (all : List V) (H' : Hp) (hs : Heap) (σs : List Addr) (s : Shared) (acc : Nat) (r : Addr) (m : Nat) (s₁ : Shared) : Prop :=
  ∃ items H σ h, ∃ tk : Tok1 z, m = items.length ∧ s₁ = { s with heap := h, toks := tk.n, gens := tk.gs } ∧ loopL c all f items H = some H' ∧ Good hT σ₀ κ ω ρ W env b σ H h ∧ It σ h it c all items ∧ Ext z.x W b σs hs σ h ∧ σ[acc]? = some r

theorem comp_level (B : Base z prog w hT σ₀ n g) (R : RecOK z prog w hT σ₀ b n rec) (RT : RecTOK z prog w hT σ₀ b n recT) (room : Room A n) (rest : List Comprehension) {depth : Nat} {s : Shared}
    (hin : ∀ {ρ2 : Rho} {H2 H1 : Hp} {σ3 : List Addr} {h3 : Heap} {tk3 : Tok1 z} {Q : Fin → Shared → Prop} {E' : Value → Shared → Prop} {kt : Sem Fin}, cgo g rec recT ω elt acc κ rest ρ2 H2 = some H1 → Good hT σ₀ κ ω ρ2 W env b σ3 H2 h3 → σ3[acc]? = some r →
      (∀ h4 (tk4 : Tok1 z) σ4, Good hT σ₀ κ ω ρ2 W env b σ4 H1 h4 → Ext z.x W b σ3 h3 σ4 h4 → wpAny (model prog w) A kt Q E' { s with heap := h4, toks := tk4.n, gens := tk4.gs }) → wpAny (model prog w) A (inner elt gens scope pos depth r env kt rest.head?) Q E' { s with heap := h3, toks := tk3.n, gens := tk3.gs })
    {g1 : Comprehension} {ρ : Rho} {it : Addr} {c : Option Nat} {all items : List V} {H H' : Hp} {σ σs : List Addr} {h hs : Heap} {tk : Tok1 z} {RR : Result → Shared → Prop}
    (hdrop : gens.drop depth = g1 :: rest) (has : g1.is_async = 0) (hfr : freshT g1.target ρ = true) (hitW : it ∉ W) (hitL : it ≠ env.locals) (hitC : ∀ x c, (κ x = some .cell ∨ κ x = some .free) → env.cells.lookup x = some c → it ≠ c) (hitT : hT.get? it = none) (hitP : notP it) (hits : hs.get? it = none)
    (he : loopL c all (turnF g rec recT ω elt acc κ g1 rest ρ) items H = some H') (G : Good hT σ₀ κ ω ρ W env b σ H h) (hi : It σ h it c all items) (ex : Ext z.x W b σs hs σ h) (hr : σ[acc]? = some r)
    (k : ∀ h' (tk : Tok1 z) σ', Good hT σ₀ κ ω ρ W env b σ' H' h' → Ext z.x W b σs hs σ' h' → σ'[acc]? = some r → RR (.ok .next) { s with heap := h', toks := tk.n, gens := tk.gs }) :
    codeAny (model prog w) A (.compLoop (.ListComp elt gens scope pos) depth (.ref it) (.ref r) env) RR { s with heap := h, toks := tk.n, gens := tk.gs } := by
  obtain ⟨hg1, hg2, hg3⟩ := drop_next hdrop
  refine codeAny_loop' rfl (CompInv z hT σ₀ b κ ω ρ W env (turnF g rec recT ω elt acc κ g1 rest ρ) it c all H' hs σs s acc r) ?_ items.length ⟨items, H, σ, h, tk, rfl, rfl, he, G, hi, ex, hr⟩
  rintro m s₁ ⟨items, H, σ, h, tk, rfl, rfl, he, G, hi, ex, hr⟩
  show wpAny _ _ ((compTurn (.ListComp elt gens scope pos) depth (.ref it) (.ref r) env).onRaise (fun x => do noteFrame x env; theTreesLotGoes x)) _ _ _
  refine wpAny_noted ?_
  have hA : Around.under A (.compLoop (.ListComp elt gens scope pos) depth (.ref it) (.ref r) env) = A := Around.under_of_weight rfl
  rw [hA]
  unfold compTurn
  dsimp only
  rw [hg1]
  dsimp only
  have hb0 : (g1.is_async != 0) = false := by rw [has]; rfl
  rw [hb0]
  simp only [Bool.false_eq_true, if_false]
  obtain ⟨o, eo, hd⟩ := hi.obj
  refine wpAny_bind (wpAny_standAt (wpAny_bind ?_))
  cases items with
  | nil =>
    obtain ⟨hc, he⟩ := ite_eq he
    cases he
    refine next_end (s := { s with heap := h, toks := tk.n, gens := tk.gs }) room.hh hi hc G.wr fun h' hx => ?_
    refine wpAny_pure ?_
    obtain ⟨hG, hE⟩ := loop_end G eo hd hitW hitL hitC hitT hitP hits ex hx
    exact k h' tk σ hG hE hr
  | cons x xs =>
    obtain ⟨hc, H1, h1, h2⟩ := loopL_cons he
    obtain ⟨ρ2, hb, hb2⟩ := bind_eq h1
    obtain ⟨p, hp, hp2⟩ := bind_eq hb2
    refine next_item (s := { s with heap := h, toks := tk.n, gens := tk.gs }) hi hc G.wr fun wv h' tk' hv hi' hsb => ?_
    have G' : Good hT σ₀ κ ω ρ W env b σ H h' := G.but (same_but hsb) eo hd hitW hitL hitC hitT hitP
    have ex' : Ext z.x W b σs hs σ h' := ex.but (same_but hsb) hits
    dsimp only
    refine wpAny_bind (owned_ok (s := { s with heap := h', toks := tk', gens := tk.gs }) hi' (wpAny_bind (assign_ok (z := z) (s := { s with heap := h', toks := tk', gens := tk.gs }) hb room.hh G' hv fun h2' tk2 G2 e2 => ?_)))
    have hi2 := wpAny_keepIt hi' G'.wr e2 G'.env.wobj hitW hitP
    refine wpAny_bind (ifs_ok (s := { s with heap := h2', toks := tk2, gens := tk.gs }) RT room _ (fun _ => rfl) (fun _ => rfl) hp G2 fun h3 tk3 σ3 wr3 e3 => ?_)
    have G3 := G2.step wr3 e3
    have hi3 := wpAny_keepIt hi2 G2.wr e3.nil G2.env.wobj hitW hitP
    have hr3 : σ3[acc]? = some r := getElem?_prefix e3.prefix hr
    -- behind the turn
    have again : ∀ {h4 : Heap} {tk4 : Tok1 z} {σ4 : List Addr} {E' : Value → Shared → Prop}, Good hT σ₀ κ ω ρ2 W env b σ4 H1 h4 → Ext z.x W b σ3 h3 σ4 h4 → wpAny (model prog w) A (again (.compLoop (.ListComp elt gens scope pos) depth (.ref it) (.ref r) env)) (fun fin s' => match fin with
        | .done f => RR (.ok f) s'
        | .again c' => (c' = .compLoop (.ListComp elt gens scope pos) depth (.ref it) (.ref r) env ∧ ∃ m, m < (x :: xs).length ∧ CompInv z hT σ₀ b κ ω ρ W env (turnF g rec recT ω elt acc κ g1 rest ρ) it c all H' hs σs s acc r m s') ∨ (c'.quiet = true ∧ codeAny (model prog w) A c' RR s')) E' { s with heap := h4, toks := tk4.n, gens := tk4.gs } := by
      intro h4 tk4 σ4 E' G4 e4
      have hi4 := wpAny_keepIt hi3 G3.wr e4 G3.env.wobj hitW hitP
      exact wpAny_pure (.inl ⟨rfl, xs.length, Nat.lt_succ_self _, xs, H1, σ4, h4, tk4, rfl, rfl, h2, G4.weaken (fresh_sub hfr hb), hi4, ((ex'.trans e2).trans e3.nil).trans e4, getElem?_prefix e4.prefix hr3⟩)
    cases hpt : p.1 with
    | false =>
      rw [hpt] at hp2
      simp only [Bool.false_eq_true, if_false] at hp2 ⊢
      cases hp2
      exact again G3 (Ext.refl ..)
    | true =>
      rw [hpt] at hp2
      simp only [if_true] at hp2 ⊢
      rw [hg2]
      have key := hin (tk3 := tk3) (E' := notedBy (model prog w) A env fun e s' => RR (.error e) s') hp2 G3 hr3 fun h4 tk4 σ4 G4 e4 => again G4 e4
      revert key
      unfold inner
      generalize rest.head? = q
      intro key
      cases q <;> exact key

theorem comp_loop (B : Base z prog w hT σ₀ n g) (R : RecOK z prog w hT σ₀ b n rec) (RT : RecTOK z prog w hT σ₀ b n recT) (room : Room A n) (hacc : b ≤ acc) :
    ∀ (rest : List Comprehension) {depth : Nat} {g1 : Comprehension} {ρ : Rho} {it : Addr} {c : Option Nat} {all items : List V} {H H' : Hp} {σ σs : List Addr} {h hs : Heap} {s : Shared} {tk : Tok1 z} {RR : Result → Shared → Prop},
      gens.drop depth = g1 :: rest → g1.is_async = 0 → freshT g1.target ρ = true → it ∉ W → it ≠ env.locals → (∀ x c, (κ x = some .cell ∨ κ x = some .free) → env.cells.lookup x = some c → it ≠ c) → hT.get? it = none → notP it → hs.get? it = none →
      loopL c all (turnF g rec recT ω elt acc κ g1 rest ρ) items H = some H' → Good hT σ₀ κ ω ρ W env b σ H h → It σ h it c all items → Ext z.x W b σs hs σ h → σ[acc]? = some r →
      (∀ h' (tk : Tok1 z) σ', Good hT σ₀ κ ω ρ W env b σ' H' h' → Ext z.x W b σs hs σ' h' → σ'[acc]? = some r → RR (.ok .next) { s with heap := h', toks := tk.n, gens := tk.gs }) →
      codeAny (model prog w) A (.compLoop (.ListComp elt gens scope pos) depth (.ref it) (.ref r) env) RR { s with heap := h, toks := tk.n, gens := tk.gs } := by
  intro rest
  induction rest with
  | nil =>
    intro depth g1 ρ it c all items H H' σ σs h hs s tk RR hdrop has hfr hitW hitL hitC hitT hitP hits he G hi ex hr k
    refine comp_level B R RT room [] ?_ hdrop has hfr hitW hitL hitC hitT hitP hits he G hi ex hr k
    intro ρ2 H2 H1 σ3 h3 tk3 Q E' kt hcg G3 hr3 k3
    obtain ⟨p, h1, he1⟩ := bind_eq hcg
    unfold inner
    simp only [List.head?_nil]
    refine wpAny_bind (wpAny_bind (R.ok elt κ ρ2 H2 p.1 p.2 h1 A ω W env σ3 _ _ _ room G3 fun w4 h4 tk4 σ4 wr4 v4 e4 => ?_))
    have G4 := G3.step wr4 e4
    refine wpAny_bind (append_ok (xp := z.x) (s := { s with heap := h4, toks := tk4.n, gens := tk4.gs }) he1 hacc (getElem?_prefix e4.prefix hr3) v4 wr4 G4.above fun h5 wr5 e5 => wpAny_pure ?_)
    exact k3 h5 tk4 σ4 (G4.step wr5 e5) (e4.trans e5).nil
  | cons g2 rest2 ih =>
    intro depth g1 ρ it c all items H H' σ σs h hs s tk RR hdrop has hfr hitW hitL hitC hitT hitP hits he G hi ex hr k
    refine comp_level B R RT room (g2 :: rest2) ?_ hdrop has hfr hitW hitL hitC hitT hitP hits he G hi ex hr k
    intro ρ2 H2 H1 σ3 h3 tk3 Q E' kt hcg G3 hr3 k3
    obtain ⟨hc2, hcg⟩ := ite_eq hcg
    obtain ⟨q, h1, he1⟩ := bind_eq hcg
    obtain ⟨⟨items2, c2⟩, H4⟩ := q
    obtain ⟨hg1, hg2, hg3⟩ := drop_next hdrop
    have hns : notSet g2.iter = true := (ite_eq h1).1
    have hb0 : (g2.is_async != 0) = false := by rw [hc2.1]; rfl
    unfold inner
    simp only [List.head?_cons]
    rw [hb0]
    simp only [Bool.false_eq_true, if_false]
    refine wpAny_bind (wpAny_mono (evIter_ok (s := { s with heap := h3, toks := tk3.n, gens := tk3.gs }) B R room h1 G3 fun it2 h4 tk4 σ4 wr4 hi4 e4 hf4 => ?_) (fun x s₁ hx => wpAny_bind (wpAny_standAt (wpAny_bind (wpAny_of_eq (notSet_folded hns x) (wpAny_bind (wpAny_holding hx)))))) fun _ _ q => q)
    have G4 := G3.step wr4 e4
    have hnew : ∀ a' o, h3.get? a' = some o → it2 ≠ a' := fun a' o e q => by
      have hf4' : h3.get? it2 = none := hf4
      rw [← q, hf4'] at e; cases e
    refine wpAny_bind (wpAny_runOwn (compStart_ok ⟨_, _, _, _, rfl⟩ ?_ hi4 ?_))
    · show ((gens)[depth + 1]?).elim false (·.is_async != 0) = false
      rw [hg2]; exact hb0
    · refine ih hg3 hc2.1 hc2.2 ?_ ?_ ?_ ?_ (notP_new G3.wr.code hf4) (hs := h3) (σs := σ3) hf4 he1 G4 hi4 e4.nil (getElem?_prefix e4.prefix hr3) fun h5 tk5 σ5 G5 e5 _ => ?_
      · intro hw
        obtain ⟨o, e, _⟩ := G3.env.wobj it2 hw
        have hf4' : h3.get? it2 = none := hf4
        rw [hf4'] at e; cases e
      · obtain ⟨m, ⟨o, _, _, e, _⟩, _⟩ := G3.env.ns
        exact hnew _ o e
      · intro x c' hk hx
        obtain ⟨c3, v₀, e1, ⟨o, e2, _⟩, _⟩ := G3.env.cell x hk
        rw [hx] at e1; cases e1
        exact hnew _ o e2
      · exact none_top G3.wr.top hf4
      · exact k3 h5 tk5 σ5 G5 e5
end
end Mine
end

section
set_option autoImplicit false
set_option maxRecDepth 100000
namespace Mine
open PySem PyProof.Rows
section
variable {z : Zm} {prog : Program} {w : World} {hT : TT} {σ₀ : List Addr} {b n : Nat} {g : Glob} {A : Around} {E : Value → Shared → Prop} {s : Shared} {σ : List Addr} {H : Hp} {κ : Kap} {ω : Str → Bool} {ρ : Rho} {W : List Addr} {env : Env}

theorem freeOk_kind {scope : Scope} (h : freeOk scope κ = true) : scope.kind = .function := by
  unfold freeOk at h
  simp only [Bool.and_eq_true, beq_iff_eq] at h
  exact h.1
theorem freeOk_mem {scope : Scope} (h : freeOk scope κ = true) {x : Str} {k : NameKind} (hm : (x, k) ∈ scope.names) : scope.names.lookup x = some k ∧ (k = .free → κ x = some .cell ∨ κ x = some .free) := by
  unfold freeOk at h
  simp only [Bool.and_eq_true] at h
  have := List.all_eq_true.mp h.2 _ hm
  simp only [Bool.and_eq_true, beq_iff_eq, Bool.or_eq_true, bne_iff_ne, ne_eq] at this
  exact ⟨this.1, fun e => by rcases this.2 with q | q; exact (q e).elim; exact q⟩

theorem compScope_kind {scope : Scope} (hfn : env.scope.kind = .function) (hk : ∀ x, env.kindOf x = κ x) (x : Str) : (compScope scope env).names.lookup x = compKap scope κ x := by
  have e : (compScope scope env).names = scope.names.map fun p => (p.1, if p.2 == .free && env.scope.kind == .function && env.kindOf p.1 == some .cell then NameKind.cell else p.2) := by
    unfold compScope
    dsimp only
    congr 1
    funext p
    obtain ⟨y, k⟩ := p
    dsimp only
    split <;> rfl
  rw [e, lookup_map_kind (fun y k => if k == .free && env.scope.kind == .function && env.kindOf y == some .cell then NameKind.cell else k), hfn]
  unfold compKap
  cases hl : scope.names.lookup x with
  | none => rfl
  | some k =>
    cases k <;> simp [hk]
    split <;> rfl

/-- the frame of a comprehension, new-made -/
theorem comp_frame {scope : Scope} {h : Heap} (G : Good hT σ₀ κ ω ρ W env b σ H h) (hf : freeOk scope κ = true) :
    Good hT σ₀ (compKap scope κ) (ownName scope) (fun y => if ownName scope y then none else ρ y) (h.objs.size :: (cellsFrom (h.objs.size + 1) scope.names []).map (·.2))
      { scope := compScope scope env, locals := h.objs.size, globals := env.globals, cells := cellsFrom (h.objs.size + 1) scope.names (closOf env.cells scope.names []), qual := env.qual, func := none, code := env.code, frame := env.frame, builtins := env.builtins }
      b σ H (pushCells (h.push { cls := .type "dict", data := .dict #[] }) scope.names) := by
  have hfn := freeOk_kind hf
  have hk : ∀ a o, h.get? a = some o → (pushCells (h.push { cls := .type "dict", data := .dict #[] }) scope.names).get? a = some o := fun a o e => pushCells_keeps _ _ _ _ (Heap.get?_push_of_some _ e)
  have tu : Tups h (pushCells (h.push { cls := .type "dict", data := .dict #[] }) scope.names) := Tups.keeps hk
  have ok := cellsFrom_ok scope.names (h.push { cls := .type "dict", data := .dict #[] }) (h.objs.size + 1) [] ⟨fun _ _ hm => (nomatch hm), List.Pairwise.nil⟩ (by rw [Heap.size_push]; exact Nat.le_refl _)
  rw [Heap.size_push] at ok
  rw [cells_append scope.names (h.objs.size + 1) (closOf env.cells scope.names [])]
  generalize hown : cellsFrom (h.objs.size + 1) scope.names [] = own at ok
  have hNs : (pushCells (h.push { cls := .type "dict", data := .dict #[] }) scope.names).Ns h.objs.size fun _ => none := (Heap.Ns.new h (.type "dict")).keeps (pushCells_keeps _ _)
  have hclo : ∀ x c, (x, c) ∈ closOf env.cells scope.names [] → scope.names.lookup x = some .free ∧ env.cells.lookup x = some c ∧ ∃ v₀, h.IsCell c v₀ ∧ ∀ v, ρ x = some v → ∃ wv, v₀ = some wv ∧ VR σ h v wv := fun x c hm => by
    rcases clos_mem hm with q | ⟨q1, q2⟩
    · cases q
    · obtain ⟨e1, e2⟩ := freeOk_mem hf q1
      obtain ⟨c', v₀, f1, f2, f3⟩ := G.env.cell x (e2 rfl)
      rw [f1] at q2
      cases q2
      exact ⟨e1, f1, v₀, f2, f3⟩
  have hownk : ∀ x c, (x, c) ∈ own → scope.names.lookup x = some .cell := fun x c hm => by
    rw [← hown] at hm
    rcases cells_kind hm with q | q
    · cases q
    · exact (freeOk_mem hf q).1
  have hcells : ∀ x c, (own ++ closOf env.cells scope.names []).lookup x = some c → (x, c) ∈ own ∨ (own.lookup x = none ∧ (x, c) ∈ closOf env.cells scope.names []) := fun x c e => by
    rw [List.lookup_append] at e
    cases q : own.lookup x with
    | some c' => rw [q] at e; cases e; exact .inl (mem_of_lookup q)
    | none => rw [q] at e; exact .inr ⟨rfl, mem_of_lookup e⟩
  have hnew : ∀ a ∈ h.objs.size :: own.map (·.2), h.objs.size ≤ a := fun a ha => by
    rcases List.mem_cons.mp ha with q | q
    · rw [q]; exact Nat.le_refl _
    · obtain ⟨p, hp, rfl⟩ := List.mem_map.mp q
      exact Nat.le_of_succ_le (ok.empty p.1 p.2 hp).2
  refine ⟨G.code, G.wr.keeps hk,
    ⟨hfn, fun x => compScope_kind G.env.fn G.env.kind x, G.env.glob, G.env.blt, ⟨_, hNs, fun x v hx hv => ?_⟩, fun x hx => ?_, fun x y c h1 h2 => ?_, fun x hx => ?_, List.mem_cons_self, fun a ha => ?_, fun a ha => notP_new G.wr.code (get_ge (hnew a ha))⟩, G.base, G.above, fun a ha => none_top G.wr.top (get_ge (hnew a ha)), G.tab⟩
  · -- a local of its own is not bound yet
    have hl : scope.names.lookup x = some .local := by
      unfold compKap at hx
      split at hx
      · split at hx <;> cases hx
      · exact hx
    have : ownName scope x = true := by unfold ownName; rw [hl]; rfl
    rw [if_pos this] at hv; cases hv
  · cases hl : scope.names.lookup x with
    | none => unfold compKap at hx; rw [hl] at hx; rcases hx with q | q <;> cases q
    | some k =>
      by_cases hc : k = .cell
      · subst hc
        have hs := cells_has scope.names (h.objs.size + 1) [] (x := x) (.inr (mem_of_lookup hl))
        rw [hown] at hs
        obtain ⟨c, e⟩ := Option.isSome_iff_exists.mp hs
        refine ⟨c, none, by show (own ++ _).lookup x = _; rw [List.lookup_append, e]; rfl, (ok.empty x c (mem_of_lookup e)).1, fun v hv => ?_⟩
        have : ownName scope x = true := by unfold ownName; rw [hl]; rfl
        rw [if_pos this] at hv; cases hv
      · by_cases hfr : k = .free
        · subst hfr
          have hs := clos_has (cells := env.cells) scope.names [] (x := x) (.inr (mem_of_lookup hl))
          obtain ⟨c, e⟩ := Option.isSome_iff_exists.mp hs
          have hno : own.lookup x = none := by
            cases q : own.lookup x with
            | none => rfl
            | some c' => have := hownk x c' (mem_of_lookup q); rw [hl] at this; cases this
          obtain ⟨_, f1, v₀, f2, f3⟩ := hclo x c (mem_of_lookup e)
          refine ⟨c, v₀, by show (own ++ _).lookup x = _; rw [List.lookup_append, hno]; exact e, f2.keeps hk, fun v hv => ?_⟩
          have : ownName scope x = false := by unfold ownName; rw [hl]; rfl
          rw [this] at hv
          obtain ⟨wv, g1, g2⟩ := f3 v hv
          exact ⟨wv, g1, g2.mono (prefix_same _) tu⟩
        · unfold compKap at hx
          rw [hl] at hx
          cases k <;> simp at hx hc hfr
  · rcases hcells x c h1 with q1 | ⟨_, q1⟩ <;> rcases hcells y c h2 with q2 | ⟨_, q2⟩
    · exact name_of_addr ok.apart q1 q2
    · obtain ⟨_, _, v₀, f2, _⟩ := hclo y c q2
      have := f2.lt
      have := (ok.empty x c q1).2
      exact absurd f2.lt (Nat.not_lt.mpr (Nat.le_of_succ_le this))
    · obtain ⟨_, _, v₀, f2, _⟩ := hclo x c q1
      have := (ok.empty y c q2).2
      exact absurd f2.lt (Nat.not_lt.mpr (Nat.le_of_succ_le this))
    · obtain ⟨_, f1, _⟩ := hclo x c q1
      obtain ⟨_, f2, _⟩ := hclo y c q2
      exact G.env.inj x y c f1 f2
  · unfold ownName at hx
    simp only [Bool.or_eq_true, beq_iff_eq] at hx
    rcases hx with q | q
    · exact .inl (by unfold compKap; rw [q])
    · refine .inr ⟨by unfold compKap; rw [q], fun c e => List.mem_cons_of_mem _ ?_⟩
      rcases hcells x c e with q1 | ⟨q0, q1⟩
      · exact List.mem_map.mpr ⟨_, q1, rfl⟩
      · obtain ⟨f0, _⟩ := hclo x c q1
        rw [q] at f0; cases f0
  · rcases List.mem_cons.mp ha with q | q
    · obtain ⟨o, es, ep, e1, e2, _⟩ := hNs
      exact ⟨o, by rw [q]; exact e1, by rw [e2]; intro _ _ e; cases e⟩
    · obtain ⟨p, hp, rfl⟩ := List.mem_map.mp q
      obtain ⟨o, e1, e2⟩ := (ok.empty p.1 p.2 hp).1
      exact ⟨o, e1, by rw [e2]; intro _ _ e; cases e⟩

theorem it_no_cell {it : Addr} {c : Option Nat} {all rest : List V} {h : Heap} {o : Obj} {v₀ : Option Value} (x : It σ h it c all rest) (e : h.get? it = some o) (hd : o.data = .cell v₀) : False := by
  cases x with
  | list _ q => obtain ⟨o', a, _, d⟩ := q; rw [e] at a; cases a; rw [hd] at d; cases d
  | tuple _ _ q => obtain ⟨o', a, _, d⟩ := q; rw [e] at a; cases a; rw [hd] at d; cases d
  | str _ q => obtain ⟨o', a, _, d⟩ := q; rw [e] at a; cases a; rw [hd] at d; cases d
  | range q =>
    have q' : h.get? it = some _ := q
    rw [e] at q'; cases q'; cases hd

theorem comp_gen {rec : Rec} {recT : RecT} (B : Base z prog w hT σ₀ n g) (R : RecOK z prog w hT σ₀ b n rec) (RT : RecTOK z prog w hT σ₀ b n recT) (room : Room A n) {elt : Expr} {gens : List Comprehension} {scope : Scope} {pos p0 : Pos} {v : V} {H' : Hp} {Q : Value → Shared → Prop} {use : Option (Value → Sem Unit)}
    (he : evComp g rec recT elt gens scope κ ρ H = some (v, H')) (G : Good hT σ₀ κ ω ρ W env b σ H s.heap)
    (hend : ∀ r h' (tk : Tok1 z) σ' L m, WR hT σ' H' h' → VR σ' h' v (.ref r) → Ext z.x [] b σ s.heap σ' h' → s.heap.get? L = none → h'.Ns L m →
      match use with
      | none => ∀ h3 m3, h3.Ns L m3 → Heap.SameBut L h' h3 → Q (.ref r) { s with heap := h3, toks := tk.n, gens := tk.gs }
      | some u => wpAny (model prog w) A (u (.ref r)) (fun _ s2 => ∃ m2, s2.heap.Ns L m2 ∧ ∀ h3 m3, h3.Ns L m3 → Heap.SameBut L s2.heap h3 → Q .none { s2 with heap := h3 }) E { s with heap := h', toks := tk.n, gens := tk.gs }) (ht : z.gp s.gens := by first | assumption | exact Tok1.pos _) :
    wpAny (model prog w) A (comprehension (.ListComp elt gens scope pos) scope env p0 (newList []) (firstAsync gens) (firstIter gens env) use) Q E s := by
  unfold evComp at he
  split at he
  · cases he
  · rename_i g1 rest
    split at he
    · rename_i hc
      obtain ⟨hc1, hc2, hc3⟩ := hc
      obtain ⟨q, h1, he1⟩ := Option.bind_eq_some_iff.mp he
      obtain ⟨Hl, h2, he2⟩ := Option.map_eq_some_iff.mp he1
      obtain ⟨⟨items, c⟩, H1⟩ := q
      cases he2
      obtain ⟨t, iter, ifs, a⟩ := g1
      simp only at hc1 hc3 h1 h2
      subst hc1
      have hns : notSet iter = true := (ite_eq h1).1
      have hfn := freeOk_kind hc2
      show wpAny _ _ (comprehension (.ListComp elt (⟨t, iter, ifs, 0⟩ :: rest) scope pos) scope env p0 (newList []) false (eval iter env) use) _ _ _
      refine comp_rule rfl (notSet_folded hns) hfn (fun x hx hl => ?_) ?_
      · rw [compScope_kind G.env.fn G.env.kind]
        have := (freeOk_mem hc2 (x := x.1) (k := x.2) hx).1
        unfold compKap
        rw [this, hl]
      refine evIter_ok B R room h1 G fun it h' tk σ1 wr1 hi e1 hfr => ?_
      have G1 := G.step wr1 e1
      refine wpAny_newList (items := []) ?_
      have wr2 := wr1.pushL (xs := []) (arr := #[]) 0 .nil (by simp)
      have e2 : Ext z.x [] b σ1 h' (σ1 ++ [h'.objs.size]) (h'.push { cls := .type "list", data := .seq #[] 0 }) := Ext.pushL ..
      have G2 := G1.step wr2 e2
      have e12 := e1.trans e2
      generalize hh2 : h'.push { cls := .type "list", data := .seq #[] 0 } = h2' at wr2 e2 G2 e12
      show wpAny _ _ (closureFor scope env) _ _ { s with heap := h2', toks := tk.n, gens := tk.gs }
      refine closure_ok (s := { s with heap := h2', toks := tk.n, gens := tk.gs }) (fun p hp hfree => ?_) ?_
      · obtain ⟨_, f⟩ := freeOk_mem hc2 (x := p.1) (k := p.2) hp
        obtain ⟨c', _, f1, _⟩ := G.env.cell p.1 (f hfree)
        rw [f1]; rfl
      refine newEnv_ok (s := { s with heap := h2', toks := tk.n, gens := tk.gs }) ?_
      have GI := comp_frame G2 hc2
      dsimp only at GI ⊢
      generalize hown : cellsFrom (h2'.objs.size + 1) scope.names [] = own at GI
      generalize hcenv : cellsFrom (h2'.objs.size + 1) scope.names (closOf env.cells scope.names []) = cs at GI ⊢
      generalize hh3 : pushCells (h2'.push { cls := .type "dict", data := .dict #[] }) scope.names = h3 at GI ⊢
      have hk23 : ∀ a o, h2'.get? a = some o → h3.get? a = some o := fun a o e => by rw [← hh3]; exact pushCells_keeps _ _ _ _ (Heap.get?_push_of_some _ e)
      have e3 : Ext z.x [] b (σ1 ++ [h'.objs.size]) h2' (σ1 ++ [h'.objs.size]) h3 := Ext.keeps hk23
      have e13 := e12.trans e3
      have hWnew : ∀ a ∈ h2'.objs.size :: own.map (·.2), h2'.get? a = none := fun a ha => get_ge (by
        rcases List.mem_cons.mp ha with q | q
        · rw [q]; exact Nat.le_refl _
        · obtain ⟨p, hp, rfl⟩ := List.mem_map.mp q
          have ok := cellsFrom_ok scope.names (h2'.push { cls := .type "dict", data := .dict #[] }) (h2'.objs.size + 1) [] ⟨fun _ _ hm => (nomatch hm), List.Pairwise.nil⟩ (by rw [Heap.size_push]; exact Nat.le_refl _)
          rw [Heap.size_push, hown] at ok
          exact Nat.le_of_succ_le (ok.empty p.1 p.2 hp).2)
      have hi3 : It (σ1 ++ [h'.objs.size]) h3 it c items items := hi.keep (List.prefix_append _ _) ((e2.tups wr1).trans (e3.tups wr2)) fun o e => hk23 _ _ (by rw [← hh2]; exact Heap.get?_push_of_some _ e)
      obtain ⟨oi, eoi, hdi⟩ := hi.obj
      have eoi2 : h2'.get? it = some oi := by rw [← hh2]; exact Heap.get?_push_of_some _ eoi
      have hitW : it ∉ h2'.objs.size :: own.map (·.2) := fun q => by have := hWnew it q; rw [eoi2] at this; cases this
      have hacc : b ≤ H1.length := G1.base
      refine compStart_ok (s := { s with heap := h3, toks := tk.n, gens := tk.gs }) ⟨_, _, _, _, rfl⟩ rfl hi3 ?_
      refine comp_loop (env := { scope := compScope scope env, locals := h2'.objs.size, globals := env.globals, cells := cs, qual := env.qual, func := none, code := env.code, frame := env.frame, builtins := env.builtins })
        (W := h2'.objs.size :: own.map (·.2)) (κ := compKap scope κ) (ω := ownName scope) (acc := H1.length) (r := h'.objs.size) B R RT room hacc rest (depth := 0) (g1 := ⟨t, iter, ifs, 0⟩) (hs := s.heap) (σs := σ) rfl rfl hc3 hitW ?_ ?_ (none_top G.wr.top hfr) (notP_new G.wr.code hfr) hfr h2 GI hi3 e13.nil ?_ ?_
      · exact fun q => hitW (by rw [q]; exact List.mem_cons_self)
      · intro x c' hx hl q
        obtain ⟨c2, v₀, f1, f2, _⟩ := GI.env.cell x hx
        rw [hl] at f1
        cases f1
        obtain ⟨oc, g1, g2⟩ := f2
        rw [← q, hk23 _ _ eoi2] at g1
        cases g1
        -- the iterator is no cell
        exact it_no_cell hi eoi g2
      · rw [← wr1.len]; simp
      · intro h4 tk4 σ4 G4 e4 hr4
        obtain ⟨m, hm, _⟩ := G4.env.ns
        refine ⟨m, hm, ?_⟩
        have hsn : ∀ a ∈ h2'.objs.size :: own.map (·.2), s.heap.get? a = none := fun a ha => fresh_of e12 (hWnew a ha)
        have e4' : Ext z.x [] b σ s.heap σ4 h4 := e4.weaken fun a o e q => by rw [hsn a q] at e; cases e
        have hv4 : VR σ4 h4 (.ref H1.length) (.ref h'.objs.size) := .ref hr4
        have := hend h'.objs.size h4 tk4 σ4 h2'.objs.size m G4.wr hv4 e4' (hsn _ List.mem_cons_self) hm
        cases use with
        | none => exact this
        | some u => exact this
    · cases he

theorem comp_ok {rec : Rec} {recT : RecT} (B : Base z prog w hT σ₀ n g) (R : RecOK z prog w hT σ₀ b n rec) (RT : RecTOK z prog w hT σ₀ b n recT) (room : Room A n) {elt : Expr} {gens : List Comprehension} {scope : Scope} {pos : Pos} {v : V} {H' : Hp} {Q : Value → Shared → Prop}
    (he : evComp g rec recT elt gens scope κ ρ H = some (v, H')) (G : Good hT σ₀ κ ω ρ W env b σ H s.heap) (k : KontT z hT b σ v H' Q s) (ht : z.gp s.gens := by first | assumption | exact Tok1.pos _) : wpAny (model prog w) A (eval (.ListComp elt gens scope pos) env) Q E s := by
  rw [eval_ListComp]
  refine comp_gen B R RT room he G fun r h' tk σ' L m wr' hv ex hL hm => ?_
  intro h3 m3 hm3 hs
  obtain ⟨o, es, ep, e1, e2, _⟩ := hm
  have hds : ∀ arr n, o.data ≠ .seq arr n := by rw [e2]; intro _ _ e; cases e
  have tu := tups_same hs e1 hds
  exact k _ h3 tk σ' (wr'.other hs e1 hds (none_top G.wr.top hL) (notP_new G.wr.code hL)) (hv.mono (prefix_same _) tu) (ex.but (same_but hs) hL)

theorem comp_use {rec : Rec} {recT : RecT} (B : Base z prog w hT σ₀ n g) (R : RecOK z prog w hT σ₀ b n rec) (RT : RecTOK z prog w hT σ₀ b n recT) (room : Room A n) {elt : Expr} {gens : List Comprehension} {scope : Scope} {pos : Pos} {v : V} {H' : Hp} {x : Str} {xp : Pos} {Q : Unit → Shared → Prop}
    (he : evComp g rec recT elt gens scope κ ρ H = some (v, H')) (hω : ω x = true) (G : Good hT σ₀ κ ω ρ W env b σ H s.heap)
    (k : ∀ h' (tk : Tok1 z) σ', Good hT σ₀ κ ω (upd ρ x v) W env b σ' H' h' → Ext z.x W b σ s.heap σ' h' → Q () { s with heap := h', toks := tk.n, gens := tk.gs }) (ht : z.gp s.gens := by first | assumption | exact Tok1.pos _) :
    wpAny (model prog w) A (evalThenUse (.ListComp elt gens scope pos) env fun v => assignAll v ((assignEach [.Name x xp] env).map (·.2))) Q E s := by
  show wpAny _ _ (comprehension (.ListComp elt gens scope pos) scope env (firstIterPos gens pos) (newList []) (firstAsync gens) (firstIter gens env) (some fun v => assign (.Name x xp) env v) >>= fun _ => pure ()) _ _ _
  refine wpAny_bind (comp_gen B R RT room he G fun r h' tk σ' L m wr' hv ex hL hm => ?_)
  dsimp only
  have G' := G.step wr' ex
  refine wpAny_assign_Name (store_ok (z := z) (s := { s with heap := h', toks := tk.n, gens := tk.gs }) hω G' hv fun h4 tk4 G4 e4 => ?_)
  have hLW : L ∉ W := fun q => by
    obtain ⟨o, e, _⟩ := G.env.wobj L q
    rw [hL] at e; cases e
  obtain ⟨o, es, ep, e1, e2, e3⟩ := hm
  have hds : ∀ arr n, o.data ≠ .seq arr n := by rw [e2]; intro _ _ e; cases e
  have hL4 : h4.get? L = some o := e4.keep L o e1 hLW (fun q => wr'.not_of_data e1 hds (List.mem_of_mem_drop q)) (fun _ => notP_new G.wr.code hL)
  refine ⟨m, ⟨o, es, ep, hL4, e2, e3⟩, fun h5 m5 hm5 hs5 => wpAny_pure ?_⟩
  have hnew : ∀ a' o, s.heap.get? a' = some o → L ≠ a' := fun a' o e q => by rw [← q, hL] at e; cases e
  refine k h5 ⟨tk4, tk.gs, tk.pos⟩ σ' (G4.but (same_but hs5) hL4 hds hLW ?_ ?_ (none_top G.wr.top hL) (notP_new G.wr.code hL)) ((ex.nil.trans e4).but (same_but hs5) hL)
  · obtain ⟨m', ⟨oL, _, _, q, _⟩, _⟩ := G.env.ns
    exact hnew _ oL q
  · intro y c hk hy
    obtain ⟨c2, v₀, f1, ⟨oc, f2, _⟩, _⟩ := G.env.cell y hk
    rw [hy] at f1; cases f1
    exact hnew _ oc f2
end
end Mine
end

section
set_option autoImplicit false
set_option maxRecDepth 100000
namespace Mine
open PySem PyProof.Rows
section
variable {z : Zm} {prog : Program} {w : World} {hT : TT} {σ₀ : List Addr} {b n : Nat} {g : Glob}

theorem const_ok {A : Around} {E : Value → Shared → Prop} {s : Shared} {σ : List Addr} {H : Hp} {env : Env} {c : Const} {v : V} {Q : Value → Shared → Prop} (he : cval c = some v) (wr : WR hT σ H s.heap) (k : Kont z.x hT b σ v H Q s) : wpAny (model prog w) A (constValue env c) Q E s := by
  cases c
  case none => cases he; exact wpAny_pure (k.same' wr .none)
  case bool b => cases he; exact wpAny_pure (k.same' wr (.bool _))
  case int i => cases he; exact wpAny_mkInt (k.same wr (.int _ _) _)
  case str x => obtain ⟨h1, he⟩ := ite_eq he; cases he; exact wpAny_mkText (k.same wr (.str _ _ h1) _)
  all_goals exact nn he

theorem sliceOf_eq {i : Expr} {l u st : Option Expr} (h : sliceOf i = some (l, u, st)) : ∃ p, i = .Slice l u st p := by
  cases i
  case Slice => cases h; exact ⟨_, rfl⟩
  all_goals exact nn h

section
variable {A : Around} {E : Value → Shared → Prop} {s : Shared} {σ : List Addr} {H H' : Hp} {κ : Kap} {ω : Str → Bool} {ρ : Rho} {W : List Addr} {env : Env} {rec : Rec} {recT : RecT} {v : V} {Q : Value → Shared → Prop}
theorem evName_ok {f : Str} {args : List Expr} {p pos : Pos} (B : Base z prog w hT σ₀ n g) (R : RecOK z prog w hT σ₀ b n rec) (room : Room A n) (hk : κ f = some .globalImplicit) (hd : f ≠ "__debug__")
    (he : (if g.isFn f then (if g.val f = none then (evs rec κ ρ args H).bind fun q => g.fn f q.1 q.2 else none) else if isGlobalB g κ f then (evs rec κ ρ args H).bind fun q => callB f q.1 q.2 else none) = some (v, H'))
    (G : Good hT σ₀ κ ω ρ W env b σ H s.heap) (k : KontT z hT b σ v H' Q s) (ht : z.gp s.gens) : wpAny (model prog w) A (eval (.Call (.Name f p) args [] pos) env) Q E s := by
  show wpAny _ _ (eval (.Name f p) env >>= fun fv => callWith pos fv [] (backTo pos (starEach args env)) []) _ _ _
  by_cases hfn : g.isFn f = true
  · rw [if_pos hfn] at he
    obtain ⟨hval, he⟩ := ite_eq he
    obtain ⟨q, h1, he⟩ := bind_eq he
    obtain ⟨mg, hg, _, _, h3, _⟩ := B.gns
    obtain ⟨fa, o, fd, e1, e2, e3, FS⟩ := h3 f hfn
    have hk' : env.kindOf f = some .globalImplicit := by rw [G.env.kind]; exact hk
    have hg' : s.heap.Ns env.globals mg := by rw [G.env.glob]; exact hg.keeps G.wr.top
    refine wpAny_bind (Calls.Name_function_global G.env.fn hk' (Calls.loadGlobal_global hg' e1 ?_) (beq_false_of_ne hd))
    refine Calls.callWith_function (o := o) (fd := fd) (args_ok R room h1 G fun ws h' tk σ' wr' vs' ex => ⟨⟨wr'.top _ _ e2, e3⟩, ?_⟩)
    have G' := G.step wr' ex
    exact FS q.1 q.2 v H' he A σ' _ _ _ ws room wr' G'.tab vs' (fun w2 h2' tk2 σ2 wr2 v2 ex2 => k w2 h2' tk2 σ2 wr2 v2 (ex.trans (ex2.base G'.base))) tk.pos
  · rw [if_neg hfn] at he
    obtain ⟨hg, he⟩ := ite_eq he
    obtain ⟨q, h1, he⟩ := bind_eq he
    have hg' := isGlobalB_eq hg
    obtain ⟨id, hb⟩ := callB_bval he
    refine wpAny_bind (global_ok B G hk hd (.inr ⟨hg'.2.1, hg'.2.2, _, hb, ?_⟩))
    refine callVal_ok R room (.inl ⟨id, rfl⟩) h1 G fun ws h' tk σ' wr' vs' ex => ?_
    exact callB_ok he hb room.hh vs' wr' ((k.after (tk := tk) ex).toK tk.pos)
theorem evSub_ok {val i : Expr} {pos : Pos} (R : RecOK z prog w hT σ₀ b n rec) (room : Room A n)
    (he : ((rec val κ ρ H).bind fun p => (rec i κ ρ p.2).bind fun q => (idx p.1 q.1 q.2).map (·, q.2)) = some (v, H'))
    (G : Good hT σ₀ κ ω ρ W env b σ H s.heap) (k : KontT z hT b σ v H' Q s) (ht : z.gp s.gens) : wpAny (model prog w) A (eval (.Subscript val i pos) env) Q E s := by
  obtain ⟨p, h1, he⟩ := bind_eq he
  obtain ⟨q, h2, he⟩ := bind_eq he
  obtain ⟨u, h3, he⟩ := map_eq he
  cases he
  refine Subscript_ (R.ok _ κ ρ H p.1 p.2 h1 A ω W env σ s _ E room G fun w1 h1' tk1 σ1 wr1 v1 e1 => ?_)
  refine R.ok _ κ ρ p.2 q.1 q.2 h2 A ω W env σ1 _ _ E room (G.step wr1 e1) fun w2 h2' tk2 σ2 wr2 v2 e2 => ?_
  exact idx_ok h3 (v1.after wr1 e2) v2 wr2 (((k.after (tk := tk1) e1).after (tk := tk2) e2).toK tk2.pos)
theorem bareCall_eq {e : Expr} {f : Str} (h : bareCall e = some f) : ∃ p pos, e = .Call (.Name f p) [] [] pos := by
  cases e
  case Call fn as kws pos =>
    cases fn
    case Name x p =>
      cases as with
      | cons _ _ => exact nn h
      | nil =>
        cases kws with
        | cons _ _ => exact nn h
        | nil => cases h; exact ⟨_, _, rfl⟩
    all_goals exact nn h
  all_goals exact nn h
theorem dctLk_eq {es : List (Str × V)} {q v : V} (h : dctLk es q = some v) : ∃ k, q = .str k ∧ es.lookup k = some v := by
  cases q
  case str k => exact ⟨k, rfl, h⟩
  all_goals exact nn h
theorem evDct_ok {val i : Expr} {pos : Pos} {es : List (Str × V)} (B : Base z prog w hT σ₀ n g) (R : RecOK z prog w hT σ₀ b n rec) (room : Room A n) (hes : dctOf g κ val = some es)
    (he : ((rec i κ ρ H).bind fun q => (dctLk es q.1).map (·, q.2)) = some (v, H'))
    (G : Good hT σ₀ κ ω ρ W env b σ H s.heap) (k : KontT z hT b σ v H' Q s) (ht : z.gp s.gens) : wpAny (model prog w) A (eval (.Subscript val i pos) env) Q E s := by
  obtain ⟨q, h1, e1⟩ := bind_eq he
  obtain ⟨u, h2, e2⟩ := map_eq e1
  cases e2
  obtain ⟨f, hb1, hb2⟩ := bind_eq hes
  obtain ⟨hk, hb3⟩ := ite_eq hb2
  obtain ⟨fp, cpos, rfl⟩ := bareCall_eq hb1
  obtain ⟨mg, hg, _, _, _, h5⟩ := B.gns
  obtain ⟨fa, o, fd, e1, e2, e3, FS⟩ := h5 f es hb3
  have hk' : env.kindOf f = some .globalImplicit := by rw [G.env.kind]; exact hk.1
  have hg' : s.heap.Ns env.globals mg := by rw [G.env.glob]; exact hg.keeps G.wr.top
  obtain ⟨key, hq, h3⟩ := dctLk_eq h2
  refine Subscript_ ?_
  show wpAny _ _ (eval (.Name f fp) env >>= fun fv => callWith cpos fv [] (backTo cpos (starEach [] env)) []) _ _ _
  refine wpAny_bind (Calls.Name_function_global G.env.fn hk' (Calls.loadGlobal_global hg' e1 ?_) (beq_false_of_ne hk.2))
  refine Calls.callWith_function (o := o) (fd := fd) (PySem.evalArgs_none ?_)
  refine ⟨⟨G.wr.top _ _ e2, e3⟩, ?_⟩
  refine FS A H σ s _ _ room G.wr G.tab fun r h' tk wr' hdct ex => ?_
  have G' := G.step wr' (ex.base G.base)
  refine R.ok _ κ ρ H q.1 q.2 h1 A ω W env σ { s with heap := h', toks := tk } _ E room G' (fun w2 h2' tk2 σ2 wr2 v2 ex2 => ?_) ht
  rw [hq] at v2
  obtain ⟨t2, rfl, _⟩ := v2.str_inv
  obtain ⟨od, d1, d2, dd, d3⟩ := hdct
  have d1' : h2'.get? r = some od := ex2.keep r od d1 (fun q => nomatch q) (fun hm => wr'.not_of d1 (by rw [d2]; decide) (List.mem_of_mem_drop hm)) (fun _ => notP_of wr'.code d1 dd)
  refine tail_ok (s := { s with heap := h2', toks := tk2.n, gens := tk2.gs }) (T := "dict") ⟨od, d1', d2⟩ slot_dict_getitem.lookup (d3 key v t2 σ2 A _ _ _ h3 d1' fun wv tk3 hv => ?_)
  exact k wv h2' ⟨tk3, tk2.gs, tk2.pos⟩ σ2 wr2 hv ((ex.base G.base).trans ex2)
theorem evSlice_ok {val : Expr} {l u st : Option Expr} {sp pos : Pos} (R : RecOK z prog w hT σ₀ b n rec) (room : Room A n)
    (he : ((rec val κ ρ H).bind fun p => (evOpt rec κ ρ l p.2).bind fun q => (evOpt rec κ ρ u q.2).bind fun r => (evOpt rec κ ρ st r.2).bind fun t => slice p.1 q.1 r.1 t.1 t.2) = some (v, H'))
    (G : Good hT σ₀ κ ω ρ W env b σ H s.heap) (k : KontT z hT b σ v H' Q s) (ht : z.gp s.gens) : wpAny (model prog w) A (eval (.Subscript val (.Slice l u st sp) pos) env) Q E s := by
  obtain ⟨p, h1, he⟩ := bind_eq he
  obtain ⟨q, h2, he⟩ := bind_eq he
  obtain ⟨r, h3, he⟩ := bind_eq he
  obtain ⟨t, h4, he⟩ := bind_eq he
  refine Subscript_ (R.ok _ κ ρ H p.1 p.2 h1 A ω W env σ s _ E room G fun w1 h1' tk1 σ1 wr1 v1 e1 => ?_)
  have G1 := G.step wr1 e1
  refine wpAny_Slice (evOpt_ok (s := { s with heap := h1', toks := tk1.n, gens := tk1.gs }) R room h2 G1 fun w2 h2' tk2 σ2 wr2 v2 e2 => ?_)
  have G2 := G1.step wr2 e2
  refine evOpt_ok (s := { s with heap := h2', toks := tk2.n, gens := tk2.gs }) R room h3 G2 fun w3 h3' tk3 σ3 wr3 v3 e3 => ?_
  have G3 := G2.step wr3 e3
  refine evOpt_ok (s := { s with heap := h3', toks := tk3.n, gens := tk3.gs }) R room h4 G3 fun w4 h4' tk4 σ4 wr4 v4 e4 => ?_
  refine slice_ok (xp := z.x) (b := b) (s := { s with heap := h4', toks := tk4.n, gens := tk4.gs }) he (((v1.after wr1 e2).after wr2 e3).after wr3 e4) ((v2.after wr2 e3).after wr3 e4) (v3.after wr3 e4) v4 wr4 ?_
  exact ((((k.after (tk := tk1) e1).after (tk := tk2) e2).after (tk := tk3) e3).after (tk := tk4) e4).toK tk4.pos
end

theorem evF_ok {rec : Rec} {recT : RecT} (B : Base z prog w hT σ₀ n g) (R : RecOK z prog w hT σ₀ b n rec) (RT : RecTOK z prog w hT σ₀ b n recT) : RecOK z prog w hT σ₀ b n (evF g b rec recT) := by
  refine ⟨?_⟩
  intro e κ ρ H v H' he A ω W env σ s Q E room G k ht
  cases e
  case Constant c kk pos =>
    obtain ⟨u, h1, h2⟩ := map_eq he
    cases h2
    exact const_ok h1 G.wr (k.toK ht)
  case Name x pos =>
    obtain ⟨u, h1, h2⟩ := map_eq he
    cases h2
    exact name_ok h1 B G k
  case BoolOp op vs pos => exact evBool_ok R room he G k
  case BinOp l op r pos =>
    obtain ⟨p, h1, he⟩ := bind_eq he
    obtain ⟨q, h2, he⟩ := bind_eq he
    refine wpAny_BinOp (R.ok _ κ ρ H p.1 p.2 h1 A ω W env σ s _ E room G fun w1 h1' tk1 σ1 wr1 v1 e1 => ?_)
    refine R.ok _ κ ρ p.2 q.1 q.2 h2 A ω W env σ1 _ _ E room (G.step wr1 e1) fun w2 h2' tk2 σ2 wr2 v2 e2 => ?_
    exact binop_ok he (v1.after wr1 e2) v2 wr2 (((k.after (tk := tk1) e1).after (tk := tk2) e2).toK tk2.pos)
  case UnaryOp op x pos =>
    obtain ⟨p, h1, he⟩ := bind_eq he
    obtain ⟨u, h2, he⟩ := map_eq he
    cases he
    show wpAny _ _ (eval x env >>= fun v => standAt pos >>= fun _ => holding [v] (unaryOp op v)) _ _ _
    refine wpAny_bind (R.ok _ κ ρ H p.1 p.2 h1 A ω W env σ s _ E room G fun w1 h1' tk1 σ1 wr1 v1 e1 => ?_)
    exact wpAny_bind (wpAny_standAt (wpAny_holding (unop_ok h2 v1 wr1 ((k.after (tk := tk1) e1).toK tk1.pos))))
  case Compare l ops cs pos =>
    obtain ⟨p, h1, he⟩ := bind_eq he
    obtain ⟨q, h2, he⟩ := map_eq he
    cases he
    show wpAny _ _ (eval l env >>= fun v => compareChain pos v ops (markedEach ops cs (evalEach cs env))) _ _ _
    refine wpAny_bind (R.ok _ κ ρ H p.1 p.2 h1 A ω W env σ s _ E room G fun w1 h1' tk1 σ1 wr1 v1 e1 => ?_)
    exact cmpChain_ok R room h2 v1 (G.step wr1 e1) (k.after (tk := tk1) e1)
  case Call f args kws pos =>
    cases kws with
    | cons _ _ => exact nn he
    | nil =>
    cases f
    case Attribute o m ap =>
      obtain ⟨hc, he⟩ := ite_eq he
      obtain ⟨p, h1, he⟩ := bind_eq he
      obtain ⟨q, h2, he⟩ := bind_eq he
      exact method_ok R room hc.1 hc.2.1 hc.2.2 h1 h2 he G k
    case Name f p =>
      obtain ⟨hc, he⟩ := ite_eq he
      exact evName_ok B R room hc.1 hc.2.1 he G k ht
    all_goals exact nn he
  case Subscript val i pos =>
    replace he : (sliceOf i).elim ((dctOf g κ val).elim ((rec val κ ρ H).bind fun p => (rec i κ ρ p.2).bind fun q => (idx p.1 q.1 q.2).map (·, q.2)) fun es =>
      (rec i κ ρ H).bind fun q => (dctLk es q.1).map (·, q.2)) (fun x =>
      (rec val κ ρ H).bind fun p => (evOpt rec κ ρ x.1 p.2).bind fun q => (evOpt rec κ ρ x.2.1 q.2).bind fun r => (evOpt rec κ ρ x.2.2 r.2).bind fun t => slice p.1 q.1 r.1 t.1 t.2) = some (v, H') := he
    cases hsl : sliceOf i with
    | some x =>
      rw [hsl] at he
      obtain ⟨l, u, st⟩ := x
      obtain ⟨sp, rfl⟩ := sliceOf_eq hsl
      exact evSlice_ok R room he G k ht
    | none =>
      rw [hsl, Option.elim_none] at he
      cases hd : dctOf g κ val with
      | some es => rw [hd] at he; exact evDct_ok B R room hd he G k ht
      | none => rw [hd] at he; exact evSub_ok R room he G k ht
  case List es pos =>
    obtain ⟨q, h1, he⟩ := bind_eq he
    obtain ⟨hl, he⟩ := ite_eq he
    cases he
    refine List_ (evs_ok R room h1 G fun ws h' tk σ' wr' vs' ex => ?_)
    refine wpAny_newList ?_ (by rw [← vs'.length]; exact hl)
    exact (k.after (tk := tk) ex) _ _ tk _ (wr'.pushL 0 vs' hl) (.ref (by rw [← wr'.len]; simp)) (Ext.pushL ..)
  case Tuple es kk pos =>
    obtain ⟨q, h1, he⟩ := bind_eq he
    obtain ⟨hl, he⟩ := ite_eq he
    cases he
    refine Tuple_ (evs_ok R room h1 G fun ws h' tk σ' wr' vs' ex => ?_)
    refine wpAny_newTuple ?_ (by rw [← vs'.length]; exact hl)
    refine (k.after (tk := tk) ex) _ _ tk _ (wr'.push _) (.tup (Heap.get?_push_size _ rfl) rfl rfl ?_ hl) (Ext.push ..)
    exact VRs.mono (prefix_same _) (Tups.keeps fun _ _ e => Heap.get?_push_of_some _ e) vs'
  case ListComp elt gens scope pos => exact comp_ok B R RT room he G k
  all_goals exact nn he
end
end Mine
end

section
set_option autoImplicit false
set_option maxRecDepth 100000
namespace Mine
open PySem PyProof.Rows

theorem clos_run {env : Env} (f : Str × NameKind → List (Str × Addr) → Sem (ForInStep (List (Str × Addr))))
    (hf : ∀ name kind cs, f (name, kind) cs = if kind == .free then (do let c ← cellOf env name; pure (.yield ((name, c) :: cs))) else pure (.yield cs)) (names : List (Str × NameKind)) :
    ∀ (acc : List (Str × Addr)), (∀ p ∈ names, p.2 = .free → (env.cells.lookup p.1).isSome = true) → (forIn names acc f : Sem _) = pure (closOf env.cells names acc) := by
  induction names with
  | nil => intro acc _; rw [List.forIn_nil]; rfl
  | cons p r ih =>
    intro acc hall
    obtain ⟨x, k⟩ := p
    have hr := fun p hp => hall p (List.mem_cons_of_mem _ hp)
    rw [List.forIn_cons, hf, clos_cons]
    by_cases hk : (k == .free) = true
    · rw [if_pos hk, if_pos hk]
      obtain ⟨c, hc⟩ := Option.isSome_iff_exists.mp (hall (x, k) List.mem_cons_self (beq_iff_eq.mp hk))
      have e : cellOf env x = pure c := by unfold cellOf; rw [hc]
      rw [e, hc]
      exact ih _ hr
    · rw [if_neg hk, if_neg hk]
      exact ih _ hr
theorem closure_eq {scope : Scope} {env : Env} (hall : ∀ p ∈ scope.names, p.2 = .free → (env.cells.lookup p.1).isSome = true) : closureFor scope env = pure (closOf env.cells scope.names []) := by
  simp only [closureFor]
  rw [clos_run _ (fun name kind cs => by cases hk : kind == NameKind.free <;> simp [hk]) _ _ hall]
  rfl

theorem anyG_eq {f : V → Option Bool} {l : List V} : ∀ {t : Bool}, anyG f l = some t → ∃ bs : List Bool, bs.length = l.length ∧ (∀ i v, l[i]? = some v → f v = some (bs.getD i false)) ∧ t = bs.any id := by
  induction l with
  | nil => intro t e; cases e; exact ⟨[], rfl, fun _ _ e => nn e, rfl⟩
  | cons x l ih =>
    intro t e
    obtain ⟨a, h1, e⟩ := bind_eq e
    obtain ⟨b, h2, e⟩ := map_eq e
    obtain ⟨bs, q1, q2, rfl⟩ := ih h2
    refine ⟨a :: bs, congrArg (· + 1) q1, fun i v e => ?_, e.symm⟩
    cases i with
    | zero => cases e; exact h1
    | succ i => exact q2 i v e
theorem keepH_eq {h h' : Hp} {v : V} {t : Bool} (e : keepH h h' v = some t) : h' = h ∧ v = .bool t := by
  unfold keepH at e
  by_cases q : h' = h
  · rw [if_pos q] at e
    refine ⟨q, ?_⟩
    cases v
    case bool b => cases e; rfl
    all_goals exact nn e
  · rw [if_neg q] at e; exact nn e
theorem passing_all (n : Nat) : passing (fun _ => true) n 0 = List.range n := by simp [passing]
theorem genOk_eq {scope : Scope} {κ : Kap} {g1 : Comprehension} {x : Str} (h : genOk scope κ g1 x = true) : g1.is_async = 0 ∧ g1.ifs = [] ∧ freeOk scope κ = true ∧ scope.isCoroutine = false ∧ (∀ p ∈ scope.names, p.2 ≠ .cell) ∧ scope.names.lookup (".0" : Str) = some .local ∧ scope.names.lookup x = some .local ∧ x ≠ ".0" := by
  unfold genOk at h
  simp only [Bool.and_eq_true, decide_eq_true_eq, List.isEmpty_iff, Bool.not_eq_true', beq_iff_eq, bne_iff_ne, ne_eq, List.all_eq_true] at h
  obtain ⟨⟨⟨⟨⟨⟨⟨a, b⟩, c⟩, d⟩, e⟩, f⟩, g⟩, i⟩ := h
  exact ⟨a, b, c, d, e, f, g, i⟩
theorem WR.quiet {hT : TT} {σ : List Addr} {H : Hp} {h : Heap} (x : WR hT σ H h) : WR { hT with gx := false } σ H h := ⟨x.len, x.obj, x.nodup, x.top, x.code, x.ct⟩

section
variable {z : Zm} {prog : Program} {w : World} {hT : TT} {σ₀ : List Addr} {b n : Nat} {g : Glob} {A : Around} {E : Value → Shared → Prop} {s : Shared} {σ : List Addr} {H : Hp} {κ : Kap} {ω : Str → Bool} {ρ : Rho} {W : List Addr} {env : Env}

/-- one turn of the generator -/
theorem gen_elt {recQ : Rec} {elt : Expr} {scope : Scope} {x : Str} {h2 h3 : Heap} {I P : Addr} {oI oP : Obj} {code : Value} {lo : Int} {i : Nat} {bit : Bool} {A' : Around} {E' : Value → Shared → Prop} {v : Value} {u : Shared} {m₂ : Str → Option Value}
    (RQ : RecOK ⟨(· = u.gens), false⟩ prog w { hT with gx := false } σ₀ H.length n recQ) (hok : freeOk scope κ = true) (hcell : ∀ p ∈ scope.names, p.2 ≠ .cell) (hx : scope.names.lookup x = some .local)
    (he : (recQ elt (fun y => scope.names.lookup y) (upd (fun y => if ownName scope y then none else ρ y) x (.int (lo + i))) H).bind (fun p => keepH H p.2 p.1) = some bit)
    (G : Good hT σ₀ κ ω ρ W env b σ H h2) (wr3 : WR hT σ H h3) (hP : h2.get? P = some oP) (dP : ∀ arr n, oP.data ≠ .seq arr n) (nP : ∀ v₀, oP.data ≠ .cell v₀) (hx3 : Heap.ExtBut P h2 h3) (hI : h2.get? I = some oI) (dI : ∀ arr n, oI.data ≠ .seq arr n) (nI : ∀ v₀, oI.data ≠ .cell v₀) (hIP : I ≠ P) (tI : hT.get? I = none) (pI : notP I)
    (kkU : ∀ a o, h3.get? a = some o → a ≠ I → u.heap.get? a = some o) (hns : u.heap.Ns h3.objs.size m₂) (hm : m₂ x = some v) (hv : ∃ t, v = .int (lo + i * 1) t)
    (room : Room A' n) : wpAny (model prog w) A' (eval elt (genEnv scope (closOf env.cells scope.names []) h3.objs.size code builtinsNs env)) (fun y s₃ => y = .bool bit ∧ Keeps u s₃) E' u := by
  obtain ⟨p, h1, e1⟩ := bind_eq he
  obtain ⟨hp2, hp1⟩ := keepH_eq e1
  obtain ⟨pv, pH⟩ := p
  have hp2' : H = pH := hp2.symm
  subst hp2'
  cases hp1
  have hI3 : h3.get? I = some oI := hx3 I oI hIP hI
  have wrU : WR { hT with gx := false } σ H u.heap := (wr3.but kkU hI3 dI tI pI).quiet
  have tu : Tups h2 u.heap := (Tups.but (it := P) (fun a o e q => hx3 a o q e) hP dP).trans (Tups.but kkU hI3 dI)
  have hclo : ∀ y c, (y, c) ∈ closOf env.cells scope.names [] → scope.names.lookup y = some .free ∧ env.cells.lookup y = some c ∧ ∃ v₀, u.heap.IsCell c v₀ ∧ ∀ v, ρ y = some v → ∃ wv, v₀ = some wv ∧ VR σ u.heap v wv := fun y c hmem => by
    rcases clos_mem hmem with q | ⟨q1, q2⟩
    · cases q
    · obtain ⟨e1, e2⟩ := freeOk_mem hok q1
      obtain ⟨c', v₀, f1, ⟨o, f2, f2'⟩, f3⟩ := G.env.cell y (e2 rfl)
      rw [f1] at q2
      cases q2
      have n1 : c' ≠ P := fun q => by rw [q, hP] at f2; cases f2; exact nP _ f2'
      have n2 : c' ≠ I := fun q => by rw [q, hI] at f2; cases f2; exact nI _ f2'
      refine ⟨e1, f1, v₀, ⟨o, kkU _ _ (hx3 _ _ n1 f2) n2, f2'⟩, fun v hv => ?_⟩
      obtain ⟨wv, g1, g2⟩ := f3 v hv
      exact ⟨wv, g1, g2.mono (prefix_same _) tu⟩
  have hown : ∀ y, scope.names.lookup y = some .local → ownName scope y = true := fun y hy => by unfold ownName; rw [hy]; rfl
  obtain ⟨t, rfl⟩ := hv
  have GQ : Good { hT with gx := false } σ₀ (fun y => scope.names.lookup y) (fun _ => false) (upd (fun y => if ownName scope y then none else ρ y) x (.int (lo + i))) [h3.objs.size] (genEnv scope (closOf env.cells scope.names []) h3.objs.size code builtinsNs env) H.length σ H u.heap := by
    refine ⟨(fun h => nomatch h), wrU, ⟨freeOk_kind hok, fun _ => rfl, G.env.glob, rfl, ⟨m₂, hns, fun y v' hk hy => ?_⟩, fun y hy => ?_, fun y y' c h1 h2 => ?_, (fun _ h => nomatch h), List.mem_singleton.mpr rfl, fun a ha => ?_, fun a ha => ?_⟩, Nat.le_refl _, fun r hr => ?_, fun a ha => ?_, G.tab⟩
    · by_cases q : y = x
      · subst q
        rw [upd_self] at hy; cases hy
        rw [Int.mul_one] at hm
        exact ⟨_, hm, .int _ _⟩
      · rw [upd_other _ _ q, if_pos (hown y hk)] at hy; exact nn hy
    · have hfr : scope.names.lookup y = some .free := by
        rcases hy with q | q
        · exact (hcell _ (mem_of_lookup q) rfl).elim
        · exact q
      have hs := clos_has (cells := env.cells) scope.names [] (x := y) (.inr (mem_of_lookup hfr))
      obtain ⟨c, e⟩ := Option.isSome_iff_exists.mp hs
      obtain ⟨_, f1, v₀, f2, f3⟩ := hclo y c (mem_of_lookup e)
      refine ⟨c, v₀, e, f2, fun v' hv' => f3 v' ?_⟩
      have q : y ≠ x := fun q => by rw [q, hx] at hfr; cases hfr
      have : ownName scope y = false := by unfold ownName; rw [hfr]; rfl
      rw [upd_other _ _ q, this] at hv'
      exact hv'
    · exact G.env.inj y y' c (hclo y c (mem_of_lookup h1)).2.1 (hclo y' c (mem_of_lookup h2)).2.1
    · cases List.mem_singleton.mp ha
      obtain ⟨o, es, ep, e1, e2, _⟩ := hns
      exact ⟨o, e1, by rw [e2]; intro _ _ e; cases e⟩
    · cases List.mem_singleton.mp ha
      exact notP_new wr3.code (get_size _)
    · rw [← wrU.len, List.drop_length] at hr; cases hr
    · cases List.mem_singleton.mp ha
      exact none_top (hT := hT) wr3.top (get_size _)
  refine RQ.ok elt _ _ H (.bool bit) H h1 A' _ _ _ σ u _ E' room GQ (fun wv h'' tk'' σ'' wr'' hvv ex => ?_) rfl
  refine ⟨hvv.bool_inv, h'', tk''.n, ?_, fun a o e => ex.keep a o e (fun h => nomatch h) (fun h => ?_) (fun h => nomatch h)⟩
  · have := tk''.pos
    dsimp only at this
    rw [this]
  · rw [← wrU.len, List.drop_length] at h; cases h

theorem genCode_ok {M : Model} {c P : Addr} {ps : Array Value} {pos : Pos} {qualname : Str} {scope : Scope} {Q : Value → Shared → Prop} (hc : env.code = .ref c) (hok : s.heap.IsCode c P ps) (htb : s.heap.TableAt c P ps)
    (hQ : ∀ code h' tk ps', Heap.ExtBut P s.heap h' → h'.IsCode c P ps' → h'.TableAt c P ps' → Q code { s with heap := h', toks := tk }) : wpAny M A (genexprCode env pos qualname scope) Q E s := by
  cases hnf : codeAmong pos ps.toList with
  | none => exact wpAny_genexprCodeX hc hok htb hnf fun c' h₃ tk₃ hx₃ _ _ hcode₃ _ htab₃ _ => hQ _ h₃ tk₃ _ hx₃ hcode₃ htab₃
  | some cv =>
    obtain ⟨o, vs, file, tf, flags, tg, inF, text, tt, op, ho, hd, h11, h2, h7, h9, h10, hop, hpd, htr, hne⟩ := id hok
    unfold genexprCode codeAt
    rw [hc, if_neg (show ¬ ((Value.ref c == Value.none) = true) from Bool.false_ne_true)]
    refine wpAny_bind (wpAny_fieldsOf ho hd ?_)
    rw [h11]
    refine wpAny_bind (wpAny_fieldsOf hop hpd ?_)
    rw [hnf]
    exact wpAny_pure (hQ cv s.heap s.toks ps (Heap.ExtBut.refl _ _) hok htb)
/-- a generator expression's code joins its function's list of inner codes -/
theorem WR.grow {h h' : Heap} (x : WR hT σ H h) {p : Addr × Addr} (hp : p ∈ CPs) {ps ps' : Array Value} (hc : IsCd h p ps) (hx : Heap.ExtBut p.2 h h') (hc' : IsCd h' p ps') : WR hT σ H h' := by
  have e2 := hc.2.2
  have dp : ∀ arr n, ({ cls := .none, data := .fields ps } : Obj).data ≠ .seq arr n := by intro _ _ q; cases q
  have tu : Tups h h' := Tups.but (it := p.2) (fun a o e q => hx a o q e) e2 dp
  refine ⟨x.len, fun a xs r h1 h2 => ?_, x.nodup, fun a o e => hx a o (fun q => ?_) (x.top a o e), fun q hq => ?_, x.ct⟩
  · obtain ⟨arr, pl, v, l⟩ := x.obj a xs r h1 h2
    refine ⟨arr, pl.at fun o' e => hx _ _ (fun q => ?_) e, v.mono (prefix_same _) tu, l⟩
    obtain ⟨m, em⟩ := pl
    rw [q, e2] at em; cases em
  · rw [q, (x.ct p hp).2] at e; exact nn e
  · by_cases hq2 : q.2 = p.2
    · cases CPs_inj q hq p hp hq2
      exact ⟨ps', hc'⟩
    · obtain ⟨pq, cq⟩ := x.code q hq
      have hne : q.1 ≠ p.2 := fun e => by
        obtain ⟨⟨oq, eq⟩, _⟩ := x.ct q hq
        rw [e, (x.ct p hp).2] at eq; exact nn eq
      exact ⟨pq, cq.1.extBut hx hne hq2, cq.2.extBut hx hne hq2⟩

theorem walks_range {A' : Around} (hA : A'.handled = none) (I : Addr) (a : Int) (n : Nat) : Walks prog w A' I [I] [I] n (fun i v => i < n ∧ ∃ t, v = .int (a + i * 1) t) (fun i h => IsRangeIter h I (a + (i : Nat) * 1) ((n : Int) - (i : Nat)) 1) :=
  have W := Walks.range (prog := prog) (w := w) hA I a 1 n
  ⟨W.sub, W.frame, fun i s Q E hi st hQ => W.item i s Q E hi st fun v h' tk hp => hQ v h' tk ⟨hi, hp⟩, W.done, W.self⟩
theorem evAny_ok {rec : Rec} {recQ : Nat → Rec} (hzg : ∀ gs, z.gp gs → AllBare gs) (hzb : ∀ gs, AllBare gs → z.gp gs) (hzx : z.x = true) (hgx : hT.gx = true)
    (B : Base z prog w hT σ₀ (n + 1) g) (R : RecOK z prog w hT σ₀ b (n + 1) rec) (RQ : ∀ gs b', RecOK ⟨(· = gs), false⟩ prog w { hT with gx := false } σ₀ b' n (recQ b')) (room : Room A (n + 1))
    {f : Str} {fp gpos pos : Pos} {elt : Expr} {g1 : Comprehension} {scope : Scope} {t : Bool} {H' : Hp} {Q : Bool → Shared → Prop} (hf : f = "any") (hgB : isGlobalB g κ f = true)
    (he : evAny g rec recQ elt g1 scope κ ρ H = some (t, H')) (G : Good hT σ₀ κ ω ρ W env b σ H s.heap) (k : KontB z hT b σ t H' Q s) (ht : z.gp s.gens) :
    wpAny (model prog w) A (isTrue (.Call (.Name f fp) [.GeneratorExp elt [g1] scope gpos] [] pos) env (eval (.Call (.Name f fp) [.GeneratorExp elt [g1] scope gpos] [] pos) env)) Q E s := by
  obtain ⟨x, hx0, e1⟩ := bind_eq he
  obtain ⟨hgo, e2⟩ := ite_eq e1
  obtain ⟨fa, hra, e3⟩ := bind_eq e2
  obtain ⟨hgr, e4⟩ := ite_eq e3
  obtain ⟨q, hq, e5⟩ := bind_eq e4
  obtain ⟨r, hr, e6⟩ := bind_eq e5
  obtain ⟨t', ha, e7⟩ := map_eq e6
  clear he e1 e2 e3 e4 e5 e6
  cases e7
  obtain ⟨f2, args⟩ := fa
  obtain ⟨hf2, p2, pos2, hiter⟩ := rangeCall_eq hra
  obtain ⟨g1a, g1b, hok, hco, hcell, h0, hxl, hx00⟩ := genOk_eq hgo
  obtain ⟨px, htar⟩ := nameOf_eq hx0
  obtain ⟨target, iter, ifs, asy⟩ := g1
  simp only at hiter g1a g1b htar
  subst hiter g1a g1b htar
  obtain ⟨bs, hbl, hbit, rfl⟩ := anyG_eq ha
  have hgB' := isGlobalB_eq hgB
  have hn0 : bs.length = (r.2 - r.1).toNat := by rw [hbl]; unfold rangeV; rw [List.length_map, List.length_range]
  refine PyProof.Rows.isTrue_plain ?_
  show wpAny _ _ (eval (.Name f fp) env >>= fun fv => callWith pos fv [] (backTo pos (starEach [.GeneratorExp elt [_] scope gpos] env)) []) _ _ _
  refine wpAny_bind (global_ok B G hgB'.1 (by rw [hf]; decide +kernel) (.inr ⟨hgB'.2.1, hgB'.2.2, .builtin "any", by rw [hf]; exact bval_any, ?_⟩))
  refine Calls.callWith_builtin rfl (Calls.evalArgs_plain ?_)
  show wpAny _ _ (spliced ((false, eval (.GeneratorExp elt [_] scope gpos) env) :: [])) _ _ _
  refine Calls.spliced_cons ?_
  have hall : ∀ p ∈ scope.names, p.2 = .free → (env.cells.lookup p.1).isSome = true := fun p hp hfree => by
    obtain ⟨_, fr⟩ := freeOk_mem hok (x := p.1) (k := p.2) hp
    obtain ⟨c', _, f1, _⟩ := G.env.cell p.1 (fr hfree)
    rw [f1]; rfl
  have hd9 := room.hd
  have hu9 := room.hu
  refine wpAny_GeneratorExp_walksQD room.hh hco (closure_eq hall) hcell h0 hxl (freeOk_kind hok) (by show A.depth < 1000; lia) ?_ (fun x => by show foldedSetIterable (.Call (.Name f2 p2) args [] pos2) env x = _; exact notSet_folded rfl x)
  refine evRange_ok B R room hf2 hgr hq hr G fun it h2 tk σ' wr2 hi ex hn => ?_
  have G2 := G.step wr2 ex
  obtain ⟨p, hpC, hcode⟩ := G.code hgx
  obtain ⟨ps, hIs⟩ := wr2.code p hpC
  have pI : notP it := notP_new G.wr.code hn
  have tI : hT.get? it = none := none_top G.wr.top hn
  have hIP : it ≠ p.2 := pI p hpC
  refine ⟨B.lim.keeps wr2.top, genCode_ok hcode hIs.1 hIs.2 fun code h3 tk3 ps' hx3 hc3 ht3 => ?_⟩
  have wr3 := wr2.grow hpC hIs hx3 ⟨hc3, ht3⟩
  have hi3 : h3.get? it = _ := hx3 it _ hIP hi
  obtain ⟨mg, bm, ob, M⟩ := B.bm
  have M3 : BMod h3 mainGlobals mg bm ob := M.keeps wr3.top
  rw [G.env.glob]
  refine wpAny_builtinsFor M3.ns M3.name M3.ne M3.obj M3.cls M3.dict M3.data ?_
  have eP := hIs.2.2
  have hcs : cStatics ≠ it := fun e => by
    obtain ⟨mc, hns, _⟩ := B.lim.keeps G.wr.top
    obtain ⟨oc, _, _, ec, _⟩ := hns
    rw [e, hn] at ec; exact nn ec
  refine ⟨it, [it], [it], (r.2 - r.1).toNat, fun i v => i < (r.2 - r.1).toNat ∧ ∃ t, v = .int (r.1 + i * 1) t, fun i h => IsRangeIter h it (r.1 + (i : Nat) * 1) (((r.2 - r.1).toNat : Int) - (i : Nat)) 1, fun _ => true, fun i y => y = .bool (bs.getD i false), rfl,
    fun A' hA => walks_range hA it r.1 _, ?_, fun a ha => ?_, B.lim.keeps wr3.top, fun h => hcs (List.mem_singleton.mp h), fun href hhref => ⟨?_, ?_⟩, ?_⟩
  · have e1 : r.1 + ((0 : Nat) : Int) * 1 = r.1 := by simp
    have e2 : ((r.2 - r.1).toNat : Int) - ((0 : Nat) : Int) = ((r.2 - r.1).toNat : Int) := by simp
    show IsRangeIter h3 it (r.1 + ((0 : Nat) : Int) * 1) (((r.2 - r.1).toNat : Int) - ((0 : Nat) : Int)) 1
    rw [e1, e2]; exact hi3
  · cases List.mem_singleton.mp ha; exact Heap.lt_size hi3
  · intro A' E' i v u m₂ _ _ _ _ _ _ _
    rw [List.forIn_nil]
    exact wpAny_pure ⟨rfl, u.heap, u.toks, rfl, fun _ _ e => e⟩
  · intro A' E' i v u m₂ hA hD hU hPi _ hns hm hkp
    have kkU : ∀ a o, h3.get? a = some o → a ≠ it → u.heap.get? a = some o := fun a o e hne => hkp a (List.mem_range.mpr (Heap.lt_size e)) (fun h => hne (List.mem_singleton.mp h)) o (hhref a o e)
    have hit : (rangeV r.1 r.2)[i]? = some (.int (r.1 + i)) := by
      unfold rangeV
      rw [List.getElem?_map, List.getElem?_range hPi.1]; rfl
    exact gen_elt (RQ u.gens q.2.length) hok hcell hxl (hbit i _ hit) G2 wr3 eP (by intro _ _ q; cases q) (by intro _ q; cases q) hx3 hi (by intro _ _ q; cases q) (by intro _ q; cases q) hIP tI pI kkU hns hm hPi.2 ⟨hA, by lia, by lia⟩
  · intro a h5 tk5 gs hgb hag hsz5 hk5 W5 hat
    refine Calls.spliced_nil ?_
    have W1 := W5.in4_1
    refine call_any_walkS (W1.self 0 _ _ _ hat ⟨a, _, _, _, _, _, _, fun j => bs.getD j false, rfl, W1, hat, ?_, fun s' hm => ?_⟩)
    · intro j v s Q E hF hQ
      obtain ⟨i, hi, rfl⟩ := hF
      rw [passing_all] at hi
      have : i = j := by
        obtain ⟨h1, h2⟩ := List.getElem?_eq_some_iff.mp hi
        rw [List.getElem_range] at h2; exact h2.symm
      subst this
      exact wpAny_truthy_bool hQ
    · rw [passing_all, List.length_range, ← hn0, any_getD]
      refine wpAny_truthy_bool ?_
      have kk : ∀ a o, h3.get? a = some o → a ≠ it → s'.heap.get? a = some o := fun a o e hne => hm.heap a o (fun h => by
        rcases List.mem_cons.mp h with q | q
        · rw [q, get_size] at e; exact nn e
        · exact hne (List.mem_singleton.mp q)) (hk5 a o e)
      have wrF : WR hT σ' q.2 s'.heap := wr3.but kk hi3 (by intro _ _ q; cases q) tI pI
      have hbare : AllBare s'.gens := AllBare.movedS ((hzg _ tk.pos).push hgb) hm
      have es : s' = { s with heap := s'.heap, toks := s'.toks, gens := s'.gens } := by
        have h1 := hm.drawn
        have h2 := hm.os
        cases s'
        simp only at h1 h2
        rw [h1, h2]
      have exF : Ext z.x [] b σ s.heap σ' s'.heap := by
        refine ⟨ex.pre, fun a o e => ?_, fun a o e hw hd hp => ?_⟩
        · obtain ⟨o2, e2⟩ := ex.there a o e
          by_cases q : a = p.2
          · subst q
            exact ⟨_, kk _ _ ht3.2 (Ne.symm hIP)⟩
          · exact ⟨o2, kk _ _ (hx3 a o2 q e2) fun q => by rw [q, hn] at e; exact nn e⟩
        · exact kk _ _ (hx3 a o (hp hzx p hpC) (ex.keep a o e hw hd hp)) fun q => by rw [q, hn] at e; exact nn e
      rw [es]
      exact k s'.heap ⟨s'.toks, s'.gens, hzb _ hbare⟩ σ' wrF exF
end
end Mine
end

section
set_option autoImplicit false
set_option maxRecDepth 100000
namespace Mine
open PySem PyProof.Rows
section
variable {z : Zm} {prog : Program} {w : World} {hT : TT} {σ₀ : List Addr} {b n : Nat} {g : Glob}

theorem tstAll_ok {A : Around} {E : Value → Shared → Prop} {κ : Kap} {ω : Str → Bool} {ρ : Rho} {W : List Addr} {env : Env} {recT : RecT} (RT : RecTOK z prog w hT σ₀ b n recT) (room : Room A n) {op : BoolOp} : ∀ {es : List Expr} {t : Bool} {H H' : Hp} {σ : List Addr} {s : Shared} {Q : Bool → Shared → Prop}, tstAll recT op κ ρ es H = some (t, H') →
    Good hT σ₀ κ ω ρ W env b σ H s.heap → KontB z hT b σ t H' Q s → (ht : z.gp s.gens := by first | assumption | exact Tok1.pos _) → wpAny (model prog w) A (allTrue op es env) Q E s := by
  intro es
  induction es with
  | nil =>
    intro t H H' σ s Q he G k ht
    cases he
    exact wpAny_pure (k s.heap ⟨s.toks, s.gens, ht⟩ σ G.wr (Ext.refl ..))
  | cons e r ih =>
    intro t H H' σ s Q he G k ht
    obtain ⟨p, h1, he⟩ := bind_eq he
    show wpAny _ _ (isTrue e env (eval e env) >>= fun c => match op, c with
      | .And, false => pure false
      | .Or, true => pure true
      | _, _ => allTrue op r env) _ _ _
    refine wpAny_bind (RT.ok e κ ρ H p.1 p.2 h1 A ω W env σ s _ E room G fun h' tk σ' wr' ex => ?_)
    have go : tstAll recT op κ ρ r p.2 = some (t, H') → wpAny (model prog w) A (allTrue op r env) Q E { s with heap := h', toks := tk.n, gens := tk.gs } := fun q => ih q (G.step wr' ex) (k.after (tk := tk) ex)
    have don : ∀ {c : Bool}, some (c, p.2) = some (t, H') → wpAny (model prog w) A (pure c) Q E { s with heap := h', toks := tk.n, gens := tk.gs } := fun e => by cases e; exact wpAny_pure (k h' tk σ' wr' ex)
    obtain ⟨c, Hc⟩ := p
    cases op <;> cases c <;> first | exact don he | exact go he

theorem genAny_eq {e elt : Expr} {g1 : Comprehension} {scope : Scope} {f : Str} (h : genAny e = some (elt, g1, scope, f)) : ∃ fp gpos pos, e = .Call (.Name f fp) [.GeneratorExp elt [g1] scope gpos] [] pos := by
  cases e
  case Call fn as kws pos =>
    cases fn
    case Name x p =>
      cases as with
      | nil => exact nn h
      | cons a as =>
      cases a
      case GeneratorExp el gens sc gp =>
        cases gens with
        | nil => exact nn h
        | cons g gens =>
        cases gens with
        | cons _ _ => exact nn h
        | nil =>
        cases as with
        | cons _ _ => exact nn h
        | nil =>
        cases kws with
        | cons _ _ => exact nn h
        | nil => cases h; exact ⟨_, _, _, rfl⟩
      all_goals exact nn h
    all_goals exact nn h
  all_goals exact nn h
/-- generators may be made, and the frame's code is known -/
noncomputable def ZOK (z : Zm) (hT : TT) : Prop := (∀ gs, z.gp gs → AllBare gs) ∧ (∀ gs, AllBare gs → z.gp gs) ∧ z.x = true ∧ hT.gx = true
/-- the quiet reading is sound -/
noncomputable def QOK (z : Zm) (prog : Program) (w : World) (hT : TT) (σ₀ : List Addr) (N : Nat) (recQ : Option (Nat → Rec)) : Prop :=
  ∀ rq, recQ = some rq → ZOK z hT ∧ ∃ n, N = n + 1 ∧ ∀ gs b', RecOK ⟨(· = gs), false⟩ prog w { hT with gx := false } σ₀ b' n (rq b')
theorem tstF_ok {rec : Rec} {recQ : Option (Nat → Rec)} {recT : RecT} (B : Base z prog w hT σ₀ n g) (R : RecOK z prog w hT σ₀ b n rec) (RQ : QOK z prog w hT σ₀ n recQ) (RT : RecTOK z prog w hT σ₀ b n recT) : RecTOK z prog w hT σ₀ b n (tstF g rec recQ recT) := by
  refine ⟨?_⟩
  intro e κ ρ H t H' he A ω W env σ s Q E room G k ht
  have pl : ∀ {e : Expr}, tstP g rec recQ e κ ρ H = some (t, H') → isTrue e env (eval e env) = (do let v ← eval e env; standAt e.pos; holding [v] (truthy v)) → wpAny (model prog w) A (isTrue e env (eval e env)) Q E s := fun {e} he hp => by
    unfold tstP at he
    cases hg : genAny e with
    | none =>
      rw [hg] at he
      obtain ⟨p, h1, e2⟩ := bind_eq he
      obtain ⟨c, h2, e3⟩ := map_eq e2
      cases e3
      exact PyProof.Rows.isTrue_plain (R.ok e κ ρ H p.1 p.2 h1 A ω W env σ s _ E room G fun w1 h1' tk1 σ1 wr1 v1 e1 => truthV_ok h2 v1 (k _ _ _ wr1 e1)) hp
    | some q =>
      rw [hg, Option.elim_some] at he
      cases hr : recQ with
      | none => rw [hr] at he; exact nn he
      | some rq =>
        rw [hr, Option.elim_some] at he
        obtain ⟨hc, e2⟩ := ite_eq he
        obtain ⟨elt, g1, scope, f⟩ := q
        obtain ⟨fp, gpos, pos, rfl⟩ := genAny_eq hg
        obtain ⟨⟨q1, q2, q3, q4⟩, n', rfl, q5⟩ := RQ rq hr
        exact evAny_ok q1 q2 q3 q4 B R q5 room hc.1 hc.2 e2 G k ht
  cases e
  case UnaryOp op x pos =>
    obtain ⟨ho, he⟩ := ite_eq he
    obtain ⟨p, h1, he⟩ := map_eq he
    cases he
    cases op <;> first | exact ft ho | skip
    exact PyProof.Rows.isTrue_not (RT.ok x κ ρ H p.1 p.2 h1 A ω W env σ s _ E room G fun h' tk σ' wr' ex => k h' tk σ' wr' ex)
  case BoolOp op vs pos => exact tstAll_ok RT room he G k
  case Compare l ops cs pos =>
    obtain ⟨p, h1, he⟩ := bind_eq he
    show wpAny _ _ (eval l env >>= fun v => testChain pos v ops (markedEach ops cs (evalEach cs env))) _ _ _
    refine wpAny_bind (R.ok _ κ ρ H p.1 p.2 h1 A ω W env σ s _ E room G fun w1 h1' tk1 σ1 wr1 v1 e1 => ?_)
    exact testChain_ok R room he v1 (G.step wr1 e1) (k.after (tk := tk1) e1)
  case IfExp => exact nn he
  all_goals exact pl he rfl

theorem evQ_ok (B : Base z prog w hT σ₀ n g) (m : Nat) : RecOK z prog w hT σ₀ b n (evQ g b m).1 ∧ RecTOK z prog w hT σ₀ b n (evQ g b m).2 := by
  induction m with
  | zero => exact ⟨⟨by intro e κ ρ H v H' he; intros; exact nn he⟩, ⟨by intro e κ ρ H v H' he; intros; exact nn he⟩⟩
  | succ m ih => exact ⟨evF_ok B ih.1 ih.2, tstF_ok B ih.1 (fun _ h => nn h) ih.2⟩
theorem Base.still (B : Base z prog w hT σ₀ n g) {z' : Zm} {n' : Nat} : Base z' prog w { hT with gx := false } σ₀ n' (quietG g) :=
  let ⟨mg, h1, h2, h3, _, _⟩ := B.gns
  ⟨⟨mg, h1, h2, h3, And.intro (fun _ h => Bool.noConfusion (show false = true from h)) (fun _ _ h => nn (show (none : Option (List (Str × V))) = some _ from h))⟩, B.bns, B.lim, B.bm⟩
theorem evT_ok (Z : ZOK z hT) (B : Base z prog w hT σ₀ (n + 1) g) (m : Nat) : RecOK z prog w hT σ₀ b (n + 1) (evT g b m).1 ∧ RecTOK z prog w hT σ₀ b (n + 1) (evT g b m).2 := by
  induction m with
  | zero => exact ⟨⟨by intro e κ ρ H v H' he; intros; exact nn he⟩, ⟨by intro e κ ρ H v H' he; intros; exact nn he⟩⟩
  | succ m ih => exact ⟨evF_ok B ih.1 ih.2, tstF_ok B ih.1 (fun rq h => by cases h; exact ⟨Z, n, rfl, fun gs b' => (evQ_ok B.still m).1⟩) ih.2⟩

theorem swaps_not {e : Expr} {t : Option Expr} {l : Nat} {env : Env} (h : notComp e = true) : swapsWith e t l env = pure false := by
  cases e <;> first | rfl | exact ft h

theorem not_interactive {env : Env} (h : env.scope.kind = .function) : interactive env = false := by
  unfold interactive; rw [h]; rfl

theorem isComp {e : Expr} (h : notComp e = false) {rec : Rec} {recT : RecT} {κ : Kap} {ρ : Rho} {H : Hp} {p : V × Hp} (he : evF g b rec recT e κ ρ H = some p) : ∃ elt gens scope pos, e = .ListComp elt gens scope pos := by
  cases e <;> first | exact ⟨_, _, _, _, rfl⟩ | exact nn he | exact ft h.symm

theorem exec_Assign1 {env : Env} (t e : Expr) (pos : Pos) : exec (.Assign [t] e pos) env = (do
    standAt pos
    if ← swapsWith e (some t) pos.line env then do
      evalThenUse e env fun v => assignAll v ((assignEach [t] env).map (·.2))
      pure .next
    else do
      let v ← eval e env
      assignStores env v (← swappedStores [t] e env) ((assignEach [t] env).map (·.2))) := rfl
theorem swapped_name {env : Env} (x : Str) (p : Pos) (e : Expr) : swappedStores [.Name x p] e env = pure none := rfl
theorem swapped_sub {env : Env} (o i : Expr) (p : Pos) (e : Expr) : swappedStores [.Subscript o i p] e env = pure none := rfl
theorem stores_name {env : Env} (x : Str) (p : Pos) (v : Value) : assignStores env v none ((assignEach [.Name x p] env).map (·.2)) = (do assign (.Name x p) env v; pure .next) := rfl
theorem stores_sub {env : Env} (o i : Expr) (p : Pos) (v : Value) : assignStores env v none ((assignEach [.Subscript o i p] env).map (·.2)) = (do assign (.Subscript o i p) env v; pure .next) := rfl
theorem assign_sub {env : Env} (o i : Expr) (p : Pos) (v : Value) : assign (.Subscript o i p) env v = (do
    let ov ← holding [v] (eval o env)
    let iv ← holding [v, ov] (eval i env)
    standAt p
    holding [v, ov, iv] (setItem ov iv v)
    release (match i with | .Slice _ _ none _ => [iv, v, ov] | _ => [v, ov, iv]) []) := rfl
theorem exec_Del1 {env : Env} (o i : Expr) (sp pos : Pos) : exec (.Delete [.Subscript o i sp] pos) env = (do
    standAt pos
    (do
      (do
        let ov ← eval o env
        let iv ← holding [ov] (eval i env)
        standAt sp
        holding [ov, iv] (delItem ov iv)
        release [ov, iv] [])
      pure ())
    pure .next) := rfl
theorem swaps_some {env : Env} (elt : Expr) (gens : List Comprehension) (scope : Scope) (cp : Pos) (x : Str) (xp : Pos) (l : Nat) : ∃ c, swapsWith (.ListComp elt gens scope cp) (some (.Name x xp)) l env = pure c := ⟨_, rfl⟩

section
variable {A : Around} {E : Value → Shared → Prop} {s : Shared} {σ : List Addr} {H H' : Hp} {κ : Kap} {ω : Str → Bool} {ρ ρ' : Rho} {W : List Addr} {env : Env} {rec : Rec} {recT : RecT} {recS : RecS} {fl : Fl} {Q : Flow → Shared → Prop}

theorem stExpr_ok {e : Expr} {pos : Pos} {p : V × Hp} (R : RecOK z prog w hT σ₀ b n rec) (room : Room A n) (hnc : notComp e = true) (h1 : rec e κ ρ H = some p) (hn : isNoneV p.1 = true) (G : Good hT σ₀ κ ω ρ W env b σ H s.heap)
    (k : KontS z hT σ₀ b κ ω W env σ .next ρ p.2 Q s) (ht : z.gp s.gens := by first | assumption | exact Tok1.pos _) : wpAny (model prog w) A (exec (.Expr e pos) env) Q E s := by
  refine wpAny_Expr (R.ok e κ ρ H p.1 p.2 h1 A ω W env σ s _ E room G fun w1 h1' tk1 σ1 wr1 v1 e1 => ?_) (not_interactive G.env.fn) (swaps_not hnc)
  obtain ⟨pv, pH⟩ := p
  cases pv
  case none => rw [VR.none_inv v1]; exact k .next h1' tk1 σ1 (G.step wr1 e1) .next e1.nil
  all_goals exact ft hn

theorem stName_ok {e : Expr} {x : Str} {xp pos : Pos} {p : V × Hp} (R : RecOK z prog w hT σ₀ b n rec) (room : Room A n) (hω : ω x = true) (hnc : notComp e = true) (h1 : rec e κ ρ H = some p) (G : Good hT σ₀ κ ω ρ W env b σ H s.heap)
    (k : KontS z hT σ₀ b κ ω W env σ .next (upd ρ x p.1) p.2 Q s) (ht : z.gp s.gens := by first | assumption | exact Tok1.pos _) : wpAny (model prog w) A (exec (.Assign [.Name x xp] e pos) env) Q E s := by
  refine wpAny_Assign_Name (R.ok e κ ρ H p.1 p.2 h1 A ω W env σ s _ E room G fun w1 h1' tk1 σ1 wr1 v1 e1 => ?_) (swaps_not hnc)
  refine store_ok (z := z) (s := { s with heap := h1', toks := tk1.n, gens := tk1.gs }) hω (G.step wr1 e1) v1 fun h2 tk2 G2 e2 => ?_
  exact k .next h2 ⟨tk2, tk1.gs, tk1.pos⟩ σ1 G2 .next (e1.nil.trans e2)

theorem stComp_ok {elt : Expr} {gens : List Comprehension} {scope : Scope} {cp : Pos} {x : Str} {xp pos : Pos} {p : V × Hp} (B : Base z prog w hT σ₀ n g) (R : RecOK z prog w hT σ₀ b n rec) (RT : RecTOK z prog w hT σ₀ b n recT) (room : Room A n) (hω : ω x = true)
    (hev : evComp g rec recT elt gens scope κ ρ H = some p) (G : Good hT σ₀ κ ω ρ W env b σ H s.heap)
    (k : KontS z hT σ₀ b κ ω W env σ .next (upd ρ x p.1) p.2 Q s) (ht : z.gp s.gens := by first | assumption | exact Tok1.pos _) : wpAny (model prog w) A (exec (.Assign [.Name x xp] (.ListComp elt gens scope cp) pos) env) Q E s := by
  rw [exec_Assign1]
  obtain ⟨c, hsw⟩ := swaps_some (env := env) elt gens scope cp x xp pos.line
  rw [hsw, swapped_name]
  refine wpAny_bind (wpAny_standAt (wpAny_bind (wpAny_pure ?_)))
  cases c with
  | true =>
    refine wpAny_bind (comp_use B R RT room hev hω G fun h' tk σ' G' e' => wpAny_pure ?_)
    exact k .next h' tk σ' G' .next e'
  | false =>
    refine wpAny_bind (comp_ok B R RT room hev G fun w1 h1' tk1 σ1 wr1 v1 e1 => wpAny_bind (wpAny_pure ?_))
    rw [stores_name]
    refine wpAny_bind (wpAny_assign_Name (store_ok (z := z) (s := { s with heap := h1', toks := tk1.n, gens := tk1.gs }) hω (G.step wr1 e1) v1 fun h2 tk2 G2 e2 => wpAny_pure ?_))
    exact k .next h2 ⟨tk2, tk1.gs, tk1.pos⟩ σ1 G2 .next (e1.nil.trans e2)

theorem stSub_ok {o i e : Expr} {sp pos : Pos} {p q r : V × Hp} (R : RecOK z prog w hT σ₀ b n rec) (room : Room A n) (hnc : notComp e = true) (h1 : rec e κ ρ H = some p) (h2 : rec o κ ρ p.2 = some q) (h3 : rec i κ ρ q.2 = some r)
    (h4 : setIdx b q.1 r.1 p.1 r.2 = some H') (G : Good hT σ₀ κ ω ρ W env b σ H s.heap)
    (k : KontS z hT σ₀ b κ ω W env σ .next ρ H' Q s) (ht : z.gp s.gens := by first | assumption | exact Tok1.pos _) : wpAny (model prog w) A (exec (.Assign [.Subscript o i sp] e pos) env) Q E s := by
  rw [exec_Assign1, swaps_not hnc, swapped_sub]
  refine wpAny_bind (wpAny_standAt (wpAny_bind (wpAny_pure ?_)))
  refine wpAny_bind (R.ok e κ ρ H p.1 p.2 h1 A ω W env σ s _ E room G fun w1 h1' tk1 σ1 wr1 v1 e1 => wpAny_bind (wpAny_pure ?_))
  rw [stores_sub, assign_sub]
  have G1 := G.step wr1 e1
  refine wpAny_bind ?_
  refine wpAny_bind (wpAny_holding (R.ok o κ ρ p.2 q.1 q.2 h2 A ω W env σ1 _ _ E room G1 fun w2 h2' tk2 σ2 wr2 v2 e2 => ?_))
  have G2 := G1.step wr2 e2
  refine wpAny_bind (wpAny_holding (R.ok i κ ρ q.2 r.1 r.2 h3 A ω W env σ2 _ _ E room G2 fun w3 h3' tk3 σ3 wr3 v3 e3 => ?_))
  have G3 := G2.step wr3 e3
  refine wpAny_bind (wpAny_standAt (wpAny_bind (wpAny_holding (setIdx_ok (xp := z.x) (s := { s with heap := h3', toks := tk3.n, gens := tk3.gs }) h4 (v2.after wr2 e3) v3 ((v1.after wr1 e2).after wr2 e3) wr3 G3.above fun h4' wr4 e4 => ?_))))
  refine release_ok (wpAny_pure ?_)
  exact k .next h4' tk3 σ3 (G3.step wr4 e4) .next (((e1.trans e2).trans e3).trans e4).nil

theorem stDel_ok {o i : Expr} {sp pos : Pos} {q r : V × Hp} (R : RecOK z prog w hT σ₀ b n rec) (room : Room A n) (h2 : rec o κ ρ H = some q) (h3 : rec i κ ρ q.2 = some r)
    (h4 : delIdx b q.1 r.1 r.2 = some H') (G : Good hT σ₀ κ ω ρ W env b σ H s.heap)
    (k : KontS z hT σ₀ b κ ω W env σ .next ρ H' Q s) (ht : z.gp s.gens := by first | assumption | exact Tok1.pos _) : wpAny (model prog w) A (exec (.Delete [.Subscript o i sp] pos) env) Q E s := by
  rw [exec_Del1]
  refine wpAny_bind (wpAny_standAt (wpAny_bind (wpAny_bind ?_)))
  refine wpAny_bind (R.ok o κ ρ H q.1 q.2 h2 A ω W env σ _ _ E room G fun w2 h2' tk2 σ2 wr2 v2 e2 => ?_)
  have G2 := G.step wr2 e2
  refine wpAny_bind (wpAny_holding (R.ok i κ ρ q.2 r.1 r.2 h3 A ω W env σ2 _ _ E room G2 fun w3 h3' tk3 σ3 wr3 v3 e3 => ?_))
  have G3 := G2.step wr3 e3
  refine wpAny_bind (wpAny_standAt (wpAny_bind (wpAny_holding (delIdx_ok (xp := z.x) (s := { s with heap := h3', toks := tk3.n, gens := tk3.gs }) h4 (v2.after wr2 e3) v3 wr3 G3.above fun h4' wr4 e4 => ?_))))
  refine release_ok (wpAny_pure (wpAny_pure ?_))
  exact k .next h4' tk3 σ3 (G3.step wr4 e4) .next ((e2.trans e3).trans e4).nil

theorem stIf_ok {t : Expr} {body orelse : List Stmt} {pos : Pos} {p : Bool × Hp} (RT : RecTOK z prog w hT σ₀ b n recT) (RS : RecSOK z prog w hT σ₀ b n κ ω recS) (room : Room A n) (h1 : recT t κ ρ H = some p)
    (h2 : (if p.1 then exs recS body ρ p.2 else exs recS orelse ρ p.2) = some (fl, ρ', H')) (G : Good hT σ₀ κ ω ρ W env b σ H s.heap)
    (k : KontS z hT σ₀ b κ ω W env σ fl ρ' H' Q s) (ht : z.gp s.gens := by first | assumption | exact Tok1.pos _) : wpAny (model prog w) A (exec (.If t body orelse pos) env) Q E s := by
  refine wpAny_If (RT.ok t κ ρ H p.1 p.2 h1 A ω W env σ s _ E room G fun h' tk σ' wr' ex => ?_)
  have G' := G.step wr' ex
  by_cases hp : p.1 = true
  · rw [if_pos hp] at h2 ⊢
    exact exs_ok RS room h2 G' (k.after (tk := tk) ex.nil)
  · rw [if_neg hp] at h2 ⊢
    exact exs_ok RS room h2 G' (k.after (tk := tk) ex.nil)

theorem stFor_ok {t it : Expr} {body : List Stmt} {pos : Pos} {items : List V} {c : Option Nat} {H1 : Hp} (B : Base z prog w hT σ₀ n g) (R : RecOK z prog w hT σ₀ b n rec) (RS : RecSOK z prog w hT σ₀ b n κ ω recS) (room : Room A n) (h1 : evIter g rec κ ρ it H = some ((items, c), H1))
    (h2 : loopS c items (fun x ρ h => (bindT ω t x ρ).bind fun ρ' => exs recS body ρ' h) items ρ H1 = some (fl, ρ', H')) (G : Good hT σ₀ κ ω ρ W env b σ H s.heap)
    (k : KontS z hT σ₀ b κ ω W env σ fl ρ' H' Q s) (ht : z.gp s.gens := by first | assumption | exact Tok1.pos _) : wpAny (model prog w) A (exec (.For t it body [] pos) env) Q E s := by
  have hns : notSet it = true := (ite_eq h1).1
  refine wpAny_For (evIter_ok B R room h1 G fun a h' tk σ' wr' hi ex hfr => ?_) (notSet_folded hns)
  have G' := G.step wr' ex
  have hnew : ∀ a' o, s.heap.get? a' = some o → a ≠ a' := fun a' o e q => by rw [← q, hfr] at e; cases e
  refine for_turns RS room (hs := s.heap) (σs := σ) ?_ ?_ ?_ ?_ hfr (notP_new G.wr.code hfr) k h2 G' hi ex.nil
  · intro hw
    obtain ⟨o, e, _⟩ := G.env.wobj a hw
    rw [hfr] at e; cases e
  · obtain ⟨m, ⟨o, _, _, e, _⟩, _⟩ := G.env.ns
    exact hnew _ o e
  · intro x c' hk hx
    obtain ⟨c2, v₀, e1, ⟨o, e2, _⟩, _⟩ := G.env.cell x hk
    rw [hx] at e1; cases e1
    exact hnew _ o e2
  · exact none_top G.wr.top hfr
end

theorem exF_ok {κ : Kap} {ω : Str → Bool} {rec : Rec} {recT : RecT} {recS : RecS} (B : Base z prog w hT σ₀ n g) (R : RecOK z prog w hT σ₀ b n rec) (RT : RecTOK z prog w hT σ₀ b n recT) (RS : RecSOK z prog w hT σ₀ b n κ ω recS)
    (hcomp : ∀ e κ ρ H p, rec e κ ρ H = some p → notComp e = false → ∃ elt gens scope pos rec' recT', e = .ListComp elt gens scope pos ∧ RecOK z prog w hT σ₀ b n rec' ∧ RecTOK z prog w hT σ₀ b n recT' ∧ evComp g rec' recT' elt gens scope κ ρ H = some p) :
    RecSOK z prog w hT σ₀ b n κ ω (exF g b ω κ rec recT recS) := by
  refine ⟨?_⟩
  intro st ρ H fl ρ' H' he A W env σ s Q E room G k ht
  cases st
  case Expr e pos =>
    obtain ⟨hnc, he⟩ := ite_eq he
    obtain ⟨p, h1, he⟩ := bind_eq he
    obtain ⟨hn, he⟩ := ite_eq he
    cases he
    exact stExpr_ok R room hnc h1 hn G k
  case Break pos => cases he; exact wpAny_bind (wpAny_standAt (wpAny_pure (k .brk s.heap ⟨s.toks, s.gens, ht⟩ σ G .brk (Ext.refl ..))))
  case Continue pos => cases he; exact wpAny_bind (wpAny_standAt (wpAny_pure (k .cont s.heap ⟨s.toks, s.gens, ht⟩ σ G .cont (Ext.refl ..))))
  case Return e pos =>
    cases e with
    | none => exact nn he
    | some e =>
    obtain ⟨p, h1, he⟩ := map_eq he
    cases he
    refine wpAny_Return_some (R.ok _ κ ρ H p.1 p.2 h1 A ω W env σ s _ E room G fun w1 h1' tk1 σ1 wr1 v1 e1 => ?_)
    exact k _ h1' tk1 σ1 (G.step wr1 e1) (.ret v1) e1.nil
  case Assign ts e pos =>
    obtain ⟨t, rfl, he⟩ := one_eq he
    cases t
    case Name x xp =>
      obtain ⟨hω, he⟩ := ite_eq he
      obtain ⟨p, h1, he⟩ := map_eq he
      cases he
      cases hnc : notComp e with
      | true => exact stName_ok R room hω hnc h1 G k
      | false =>
        obtain ⟨elt, gens, scope, cp, rec', recT', rfl, R', RT', hev⟩ := hcomp e κ ρ H p h1 hnc
        exact stComp_ok B R' RT' room hω hev G k
    case Subscript o i sp =>
      obtain ⟨hnc, he⟩ := ite_eq he
      obtain ⟨p, h1, he⟩ := bind_eq he
      obtain ⟨q, h2, he⟩ := bind_eq he
      obtain ⟨r, h3, he⟩ := bind_eq he
      obtain ⟨Hn, h4, he⟩ := map_eq he
      cases he
      exact stSub_ok R room (Bool.and_eq_true_iff.mp hnc).1 h1 h2 h3 h4 G k
    all_goals exact nn he
  case Delete ts pos =>
    obtain ⟨t, rfl, he⟩ := one_eq he
    cases t
    case Subscript o i sp =>
      obtain ⟨_, he⟩ := ite_eq he
      obtain ⟨q, h2, he⟩ := bind_eq he
      obtain ⟨r, h3, he⟩ := bind_eq he
      obtain ⟨Hn, h4, he⟩ := map_eq he
      cases he
      exact stDel_ok R room h2 h3 h4 G k
    all_goals exact nn he
  case If t body orelse pos =>
    obtain ⟨p, h1, he⟩ := bind_eq he
    exact stIf_ok RT RS room h1 he G k
  case For t it body orelse pos =>
    cases orelse with
    | cons _ _ => exact nn he
    | nil =>
    obtain ⟨q, h1, he⟩ := bind_eq he
    obtain ⟨⟨items, c⟩, H1⟩ := q
    exact stFor_ok B R RS room h1 he G k
  all_goals exact nn he

theorem exT_ok {κ : Kap} {ω : Str → Bool} (Z : ZOK z hT) (B : Base z prog w hT σ₀ (n + 1) g) (m : Nat) : RecSOK z prog w hT σ₀ b (n + 1) κ ω (exT g b ω κ m) := by
  induction m with
  | zero => exact ⟨by intro st ρ H fl ρ' H' he; intros; exact nn he⟩
  | succ m ih =>
    refine exF_ok B (evT_ok Z B m).1 (evT_ok Z B m).2 ih fun e κ' ρ H p he hnc => ?_
    cases m with
    | zero => exact nn he
    | succ m =>
      obtain ⟨elt, gens, scope, pos, rfl⟩ := isComp hnc he
      exact ⟨elt, gens, scope, pos, _, _, rfl, (evT_ok Z B m).1, (evT_ok Z B m).2, he⟩
end
end Mine
end

section
set_option autoImplicit false
set_option maxRecDepth 100000
namespace Mine
open PySem PyProof.Rows

structure FdOK (hT : Heap) (fd : FuncData) (f : FnD) : Prop where
  body : fd.body = .stmts f.body
  scope : fd.scope = f.scope
  clo : fd.closure = []
  glob : fd.globals = mainGlobals
  blt : fd.builtins = builtinsNs
  kind : f.scope.kind = .function
  gen : f.scope.isGenerator = false
  co : f.scope.isCoroutine = false
  bind : ∀ vals : List Value, vals.length = f.params.length → bindArgs fd ⟨vals, []⟩ = pure (f.params.zip vals)
  own : ∀ x ∈ f.params, ownName f.scope x = true
  nofree : ∀ p ∈ f.scope.names, p.2 ≠ .free
  code : hT.CodeRec fd.code fd.qualname
  cp : ∃ p ∈ CPs, fd.code = .ref p.1

theorem bindL_eq {kindOf : Str → Option NameKind} {x : Str} (hx : kindOf x = some .local) : ∀ (binds : List (Str × Value)) (m : Str → Option Value), bindL kindOf binds m x = (binds.reverse.lookup x).or (m x)
  | [], m => by simp [bindL]
  | (y, v) :: r, m => by
    unfold bindL
    rw [bindL_eq hx r, List.reverse_cons, List.lookup_append]
    by_cases h : y = x
    · subst h
      rw [if_pos hx]
      simp [List.lookup_cons, Option.or_assoc]
    · have e : (if kindOf y = some .local then (fun z => if z = y then some v else m z) else m) x = m x := by
        split
        · simp [Ne.symm h]
        · rfl
      rw [e]
      have : (x == y) = false := by simpa using Ne.symm h
      simp [List.lookup_cons, this]
theorem bindC_eq {kindOf : Str → Option NameKind} {x : Str} (hx : kindOf x ≠ some .local) : ∀ (binds : List (Str × Value)) (m : Str → Option Value), bindC kindOf binds m x = (binds.reverse.lookup x).or (m x)
  | [], m => by simp [bindC]
  | (y, v) :: r, m => by
    unfold bindC
    rw [bindC_eq hx r, List.reverse_cons, List.lookup_append]
    by_cases h : y = x
    · subst h
      rw [if_neg hx]
      simp [List.lookup_cons, Option.or_assoc]
    · have e : (if kindOf y = some .local then m else (fun z => if z = y then some v else m z)) x = m x := by
        split
        · rfl
        · simp [Ne.symm h]
      rw [e]
      have : (x == y) = false := by simpa using Ne.symm h
      simp [List.lookup_cons, this]

inductive OptR (σ : List Addr) (h : Heap) : Option V → Option Value → Prop
  | none : OptR σ h none none
  | some {v wv} : VR σ h v wv → OptR σ h (some v) (some wv)
theorem OptR.or {σ : List Addr} {h : Heap} {a c : Option V} {b d : Option Value} (x : OptR σ h a b) (y : OptR σ h c d) : OptR σ h (a.or c) (b.or d) := by
  cases x with
  | none => exact y
  | some q => exact .some q
theorem zip_lookup {σ : List Addr} {h : Heap} {x : Str} {ps : List Str} {vs : List V} {ws : List Value} (q : VRs σ h vs ws) : OptR σ h ((ps.zip vs).reverse.lookup x) ((ps.zip ws).reverse.lookup x) :=
  q.ind (motive := fun vs ws => ∀ ps : List Str, OptR σ h ((ps.zip vs).reverse.lookup x) ((ps.zip ws).reverse.lookup x)) (fun ps => by cases ps <;> exact .none) (fun v vs w ws a _ ih ps => by
    cases ps with
    | nil => exact .none
    | cons p ps =>
      rw [List.zip_cons_cons, List.zip_cons_cons, List.reverse_cons, List.reverse_cons, List.lookup_append, List.lookup_append]
      refine (ih ps).or ?_
      rw [List.lookup_cons, List.lookup_cons]
      cases (x == p) with
      | true => exact .some a
      | false => exact .none) ps
theorem zip_some {σ : List Addr} {h : Heap} {x : Str} {ps : List Str} {vs : List V} {ws : List Value} {v : V} (q : VRs σ h vs ws) (hv : (ps.zip vs).reverse.lookup x = some v) : ∃ wv, (ps.zip ws).reverse.lookup x = some wv ∧ VR σ h v wv := by
  have z := zip_lookup (x := x) (ps := ps) q
  rw [hv] at z
  generalize (ps.zip ws).reverse.lookup x = r at z
  cases z with | some q => exact ⟨_, rfl, q⟩
theorem runFn_inv {g : Glob} {f : FnD} {args : List V} {H H' : Hp} {v : V} (he : runFn g f args H = some (v, H')) : args.length = f.params.length ∧ ∃ fl ρ', exs (exT g H.length (fun x => ownName f.scope x) (fun x => f.scope.names.lookup x) fuel) f.body (fun x => (f.params.zip args).reverse.lookup x) H = some (fl, ρ', H') ∧ (fl = .ret v ∨ (fl = .next ∧ v = .none)) := by
  obtain ⟨hl, he⟩ := ite_eq he
  refine ⟨hl, ?_⟩
  generalize exs _ _ _ _ = r at he ⊢
  cases r with
  | none => exact nn he
  | some q =>
    obtain ⟨fl, ρ', H''⟩ := q
    cases fl with
    | next => cases he; exact ⟨_, _, rfl, .inr ⟨rfl, rfl⟩⟩
    | brk => exact nn he
    | cont => exact nn he
    | ret u => cases he; exact ⟨_, _, rfl, .inl rfl⟩

section
variable {z : Zm} {prog : Program} {w : World} {hT : TT} {σ₀ : List Addr} {n : Nat} {g : Glob}

theorem call_cells {A : Around} {s : Shared} {R : Result → Shared → Prop} {a : Addr} {o : Obj} {fd : FuncData} {body : List Stmt} {vals : List Value} {binds : List (Str × Value)}
    (hroom : A.depth < recursionLimit) (ho : s.heap.get? a = some o) (hdata : o.data = .func fd) (hlim : s.heap.NoLimit) (hcd : s.heap.CodeRec fd.code fd.qualname)
    (hbody : fd.body = .stmts body) (hbind : bindArgs fd ⟨vals, []⟩ = pure binds) (hclo : fd.closure = [])
    (hkind : ∀ x ∈ binds, fd.scope.names.lookup x.1 = some .local ∨ (fd.scope.names.lookup x.1 = some .cell ∧ ((cellsFrom (s.heap.objs.size + 1) fd.scope.names []).lookup x.1).isSome = true))
    (hco : fd.scope.isCoroutine = false) (hgen : fd.scope.isGenerator = false) (hk : fd.scope.kind = .function)
    (h : ∀ s₁, InCallC s (callEnvC fd s.heap.objs.size a).locals (bindL (callEnvC fd s.heap.objs.size a).kindOf binds fun _ => none) (callEnvC fd s.heap.objs.size a).cells
        (bindC (callEnvC fd s.heap.objs.size a).kindOf binds fun _ => none) s₁ →
      wpAny (model prog w) (A.deeper (callEnvC fd s.heap.objs.size a)) (execs body (callEnvC fd s.heap.objs.size a)) (fun f s' => R (.ok (.ret (match f with | .ret v => v | _ => .none))) s')
        (fun e s' => wpAny (model prog w) (A.deeper (callEnvC fd s.heap.objs.size a)) (leaving (callEnvC fd s.heap.objs.size a) e) (fun _ s'' => R (.error e) s'') (fun e' s'' => R (.error e') s'') s') s₁) :
    codeAny (model prog w) A (.call (.ref a) ⟨vals, []⟩) R s := by
  refine codeAny_call_function hroom ho hdata hco hgen hbody hcd ?_
  rw [hbind, hclo]
  refine wpAny_pure (wpAny_newFunctionEnv_cells hk hkind fun env he s' x => ?_)
  subst he
  exact ⟨hlim.keeps x.toInCall.keep, codeAny_func (h s' x)⟩

theorem runFn_ok {fd : FuncData} {f : FnD} {fa : Addr} {o : Obj} (Z : ZOK z hT) (B : Base z prog w hT σ₀ (n + 1) g) (hlim : hT.NoLimit) (ho : hT.get? fa = some o) (hd : o.data = .func fd) (F : FdOK hT.toHeap fd f) : FnSound z prog w hT σ₀ (n + 2) (runFn g f) fa := by
  intro args H v H' he A σ s Q E ws room wr tab hvs k ht
  obtain ⟨hlen, fl, ρ', hev, hfl⟩ := runFn_inv he
  have hl2 : ws.length = f.params.length := by rw [← hvs.length]; exact hlen
  have hd9 := room.hd
  refine wpAny_call (call_cells (body := f.body) (binds := f.params.zip ws) (by show A.depth < 1000; lia) (wr.top _ _ ho) hd (hlim.keeps wr.top) (F.code.keeps wr.top) F.body (F.bind ws hl2) F.clo ?_
    (by rw [F.scope]; exact F.co) (by rw [F.scope]; exact F.gen) (by rw [F.scope]; exact F.kind) ?_)
  · intro x hx
    rw [F.scope]
    have hm : x.1 ∈ f.params := (List.of_mem_zip hx).1
    have := F.own _ hm
    unfold ownName at this
    simp only [Bool.or_eq_true, beq_iff_eq] at this
    rcases this with q | q
    · exact .inl q
    · exact .inr ⟨q, cells_has _ _ _ (.inr (mem_of_lookup q))⟩
  · intro s₁ hI
    have hk : ∀ x, (callEnvC fd s.heap.objs.size fa).kindOf x = f.scope.names.lookup x := fun x => by
      show fd.scope.names.lookup x = _
      rw [F.scope]
    have hcs : (callEnvC fd s.heap.objs.size fa).cells = cellsFrom (s.heap.objs.size + 1) f.scope.names [] := by
      show cellsFrom (s.heap.objs.size + 1) fd.scope.names [] = _
      rw [F.scope]
    have hL : (callEnvC fd s.heap.objs.size fa).locals = s.heap.objs.size := rfl
    generalize henv : callEnvC fd s.heap.objs.size fa = env at hI hk hcs hL
    have hfn : env.scope.kind = .function := by rw [← henv]; show fd.scope.kind = _; rw [F.scope]; exact F.kind
    have hgl : env.globals = mainGlobals := by rw [← henv]; exact F.glob
    have hbl : env.builtins = builtinsNs := by rw [← henv]; exact F.blt
    obtain ⟨h₁, tk₁, rfl⟩ := hI.toInCall.same
    have hkeep : ∀ a o, s.heap.get? a = some o → h₁.get? a = some o := hI.toInCall.keep
    have wr₁ : WR hT σ H h₁ := wr.keeps hkeep
    have hvs₁ : VRs σ h₁ args ws := hvs.mono (prefix_same _) (Tups.keeps hkeep)
    have hcellW : ∀ x c, env.cells.lookup x = some c → s.heap.get? c = none := fun x c e => get_ge (Nat.le_of_lt (by have := hI.above x c (mem_of_lookup e); rw [hL] at this; exact this))
    let W := env.locals :: (f.scope.names.filterMap fun p => env.cells.lookup p.1)
    have hW : ∀ a ∈ W, s.heap.get? a = none := fun a ha => by
      rcases List.mem_cons.mp ha with q | q
      · rw [q, hL]; exact get_size _
      · obtain ⟨p, _, e⟩ := List.mem_filterMap.mp q
        exact hcellW _ _ e
    have G : Good hT σ₀ (fun x => f.scope.names.lookup x) (fun x => ownName f.scope x) (fun x => (f.params.zip args).reverse.lookup x) W env H.length σ H h₁ := by
      refine ⟨fun _ => by rw [← henv]; exact F.cp, wr₁, ⟨hfn, hk, hgl, hbl, ⟨_, hI.toInCall.ns, fun x v hx hv => ?_⟩, fun x hx => ?_, fun x y c h1 h2 => name_of_addr hI.apart (mem_of_lookup h1) (mem_of_lookup h2), fun x hx => ?_, List.mem_cons_self, fun a ha => ?_, fun a ha => notP_new wr.code (hW a ha)⟩, Nat.le_refl _, ?_, ?_, tab⟩
      · obtain ⟨wv, hz, q⟩ := zip_some hvs₁ hv
        refine ⟨wv, ?_, q⟩
        rw [bindL_eq (by rw [hk]; exact hx), hz]; rfl
      · have hc : f.scope.names.lookup x = some .cell := by
          rcases hx with q | q
          · exact q
          · exact (F.nofree _ (mem_of_lookup q) rfl).elim
        have hs := cells_has f.scope.names (s.heap.objs.size + 1) [] (.inr (mem_of_lookup hc))
        rw [← hcs] at hs
        obtain ⟨c, e⟩ := Option.isSome_iff_exists.mp hs
        refine ⟨c, _, e, hI.cell x c e, fun v hv => ?_⟩
        obtain ⟨wv, hz, q⟩ := zip_some hvs₁ hv
        refine ⟨wv, ?_, q⟩
        rw [bindC_eq (by rw [hk]; simp only [hc]; decide), hz]; rfl
      · have : ownName f.scope x = true := hx
        unfold ownName at this
        simp only [Bool.or_eq_true, beq_iff_eq] at this
        rcases this with q | q
        · exact .inl q
        · exact .inr ⟨q, fun c e => List.mem_cons_of_mem _ (List.mem_filterMap.mpr ⟨(x, .cell), mem_of_lookup q, e⟩)⟩
      · rcases List.mem_cons.mp ha with q | q
        · obtain ⟨oL, es, ep, e1, e2, _⟩ := hI.toInCall.ns
          exact ⟨oL, by rw [q]; exact e1, by rw [e2]; intro _ _ e; cases e⟩
        · obtain ⟨p, _, e⟩ := List.mem_filterMap.mp q
          obtain ⟨oc, e1, e2⟩ := hI.cell _ _ e
          exact ⟨oc, e1, by rw [e2]; intro _ _ e; cases e⟩
      · intro r hr
        rw [List.drop_eq_nil_of_le (by rw [wr.len]; exact Nat.le_refl _)] at hr
        cases hr
      · exact fun a ha => none_top wr.top (hW a ha)
    have room' : Room (A.deeper env) (n + 1) := ⟨room.hh, by show A.depth + 1 + (n + 1) < 900; lia, by have := room.hu; show A.units + 3 + 10 * (n + 1) + 300 < cLine; lia⟩
    refine exs_ok (exT_ok Z B fuel) room' hev G fun fw h' tk σ' G' hf ex => ?_
    have exE : Ext z.x [] H.length σ s.heap σ' h' := by
      obtain ⟨δ, e1, e2⟩ := ex.pre
      refine ⟨⟨δ, e1, fun r hr => ?_⟩, fun a o e => ex.there a o (hkeep a o e), fun a o e _ hdr hp => ex.keep a o (hkeep a o e) (fun q => by rw [hW a q] at e; exact nn e) hdr hp⟩
      cases q : s.heap.get? r with
      | none => rfl
      | some o => have := e2 r hr; rw [hkeep r o q] at this; cases this
    rcases hfl with rfl | ⟨rfl, rfl⟩
    · cases hf with | ret hv => exact k _ h' tk σ' G'.wr hv exE
    · cases hf; exact k _ h' tk σ' G'.wr .none exE
end
end Mine
end

section
set_option autoImplicit false
set_option maxRecDepth 100000
namespace Mine
open PySem PyProof.Rows

section
variable {z : Zm} {prog : Program} {w : World} {hT : TT} {σ₀ : List Addr} {n : Nat}

/-- a constant stands for itself in any heap -/
noncomputable def AnyVR (v : V) (wv : Value) : Prop := ∀ σ h, VR σ h v wv
theorem const_raw {A : Around} {E : Value → Shared → Prop} {s : Shared} {env : Env} {c : Const} {v : V} {Q : Value → Shared → Prop} (he : cval c = some v) (k : ∀ wv tk, AnyVR v wv → Q wv { s with toks := tk }) : wpAny (model prog w) A (constValue env c) Q E s := by
  cases c
  case none => cases he; exact wpAny_pure (k _ s.toks fun _ _ => .none)
  case bool b => cases he; exact wpAny_pure (k _ s.toks fun _ _ => .bool _)
  case int i => cases he; exact wpAny_mkInt (k _ _ fun _ _ => .int _ _)
  case str x => obtain ⟨h1, he⟩ := ite_eq he; cases he; exact wpAny_mkText (k _ _ fun _ _ => .str _ _ h1)
  all_goals exact nn he

noncomputable def pairsOf (pos : Pos) (env : Env) : List (Option Expr) → List Expr → List (Sem Value × Sem Value)
  | some k :: ks, v :: vs => (eval k env, do let x ← eval v env; standAt pos; pure x) :: pairsOf pos env ks vs
  | _, _ => []
theorem pairs_shape {pos : Pos} {env : Env} : ∀ {ks : List (Option Expr)} {vs : List Expr} {es : List (Str × V)}, constItems ks vs = some es →
    (evalEachOpt ks env).zip ((evalEach vs env).map fun v => do let x ← v; standAt pos; pure x) = (pairsOf pos env ks vs).map (fun p => (some p.1, p.2)) ∧ (pairsOf pos env ks vs).length = es.length
  | [], [], es, h => by cases h; exact ⟨rfl, rfl⟩
  | [], _ :: _, es, h => by simp [constItems] at h
  | some k :: ks, v :: vs, es, h => by
    unfold constItems at h
    split at h
    · rename_i h1 h2; cases h1
    · rename_i kk _ _ ks' c _ _ vs' h1 h2
      cases h1
      cases h2
      obtain ⟨u, h3, h4⟩ := Option.bind_eq_some_iff.mp h
      obtain ⟨es', h5, h6⟩ := Option.map_eq_some_iff.mp h4
      cases h6
      obtain ⟨e1, e2⟩ := pairs_shape (pos := pos) (env := env) h5
      refine ⟨?_, by simp [pairsOf, e2]⟩
      show (_, _) :: _ = (_, _) :: _
      rw [List.cons.injEq]
      exact ⟨rfl, e1⟩
    · cases h
  | none :: ks, vs, es, h => by simp [constItems] at h
  | some k :: ks, [], es, h => by simp [constItems] at h
/-- the pairs of a written dict, read -/
inductive KV : List (Str × V) → List (Value × Value) → List (Str × Value) → Prop
  | nil : KV [] [] []
  | cons {k v es kw vw ps kvs} : (PySem.strKind prog w).is k kw = true → AnyVR v vw → KV es ps kvs → KV ((k, v) :: es) ((kw, vw) :: ps) ((k, vw) :: kvs)

theorem pairs_eval {A : Around} {E : Value → Shared → Prop} {pos : Pos} {env : Env} : ∀ {ks : List (Option Expr)} {vs : List Expr} {es : List (Str × V)} {s : Shared} {Q : List (Value × Value) → Shared → Prop}, constItems ks vs = some es →
    (∀ ps kvs tk, KV (prog := prog) (w := w) es ps kvs → Q ps { s with toks := tk }) → wpAny (model prog w) A (evalPairs (pairsOf pos env ks vs)) Q E s
  | [], [], es, s, Q, h, k => by cases h; exact evalPairs_nil (k [] [] s.toks .nil)
  | [], _ :: _, es, s, Q, h, k => by simp [constItems] at h
  | none :: ks, vs, es, s, Q, h, k => by simp [constItems] at h
  | some _ :: ks, [], es, s, Q, h, k => by simp [constItems] at h
  | some ke :: ks, v :: vs, es, s, Q, h, k => by
    unfold constItems at h
    split at h
    · rename_i h1 h2; cases h1
    · rename_i kk _ _ ks' c _ _ vs' h1 h2
      cases h1
      cases h2
      obtain ⟨u, h3, h4⟩ := Option.bind_eq_some_iff.mp h
      obtain ⟨es', h5, h6⟩ := Option.map_eq_some_iff.mp h4
      cases h6
      refine evalPairs_cons ?_
      show wpAny _ _ (constValue env (.str kk)) _ _ _
      refine wpAny_mkText ?_
      refine wpAny_bind ?_
      show wpAny _ _ (constValue env c) _ _ _
      refine const_raw h3 fun wv tk hv => ?_
      refine wpAny_bind (wpAny_standAt (wpAny_pure ?_))
      exact pairs_eval h5 fun ps kvs tk' hk => k _ _ tk' (.cons (by simp [PySem.strKind, Value.isStrOf]) hv hk)
    · cases h
theorem KV.carries {es : List (Str × V)} {ps : List (Value × Value)} {kvs : List (Str × Value)} (x : KV (prog := prog) (w := w) es ps kvs) : Carries (PySem.strKind prog w) ps kvs := by
  induction x with
  | nil => trivial
  | cons h1 h2 _ ih => exact ⟨h1, rfl, ih⟩
theorem KV.keys {es : List (Str × V)} {ps : List (Value × Value)} {kvs : List (Str × Value)} (x : KV (prog := prog) (w := w) es ps kvs) : kvs.map (·.1) = es.map (·.1) := by
  induction x with
  | nil => rfl
  | cons h1 h2 _ ih => simp only [List.map_cons, ih]
theorem KV.find {es : List (Str × V)} {ps : List (Value × Value)} {kvs : List (Str × Value)} (x : KV (prog := prog) (w := w) es ps kvs) {k : Str} {v : V} (h : es.lookup k = some v) : ∃ vw, valueAt kvs k = some vw ∧ AnyVR v vw := by
  induction x with
  | nil => cases h
  | @cons k' v' es kw vw ps kvs h1 h2 _ ih =>
    rw [List.lookup_cons] at h
    unfold valueAt
    rw [List.find?_cons]
    by_cases hk : k = k'
    · subst hk
      simp only [BEq.rfl] at h
      cases h
      exact ⟨vw, by simp, h2⟩
    · have : (k == k') = false := by simpa using hk
      rw [this] at h
      have : decide (k' = k) = false := by simpa using fun e => hk e.symm
      simp only [this]
      exact ih h
theorem merged_nodup : ∀ (kvs acc : List (Str × Value)), ((acc ++ kvs).map (·.1)).Nodup → merged acc kvs = acc ++ kvs
  | [], acc, _ => by simp [merged]
  | kv :: kvs, acc, h => by
    have hn : acc.any (fun x => x.1 = kv.1) = false := by
      rw [List.any_eq_false]
      intro x hx e
      simp only [decide_eq_true_eq] at e
      rw [List.map_append, List.map_cons] at h
      have := (List.nodup_append.mp h).2.2 x.1 (List.mem_map.mpr ⟨x, hx, rfl⟩) kv.1 (List.mem_cons_self ..)
      exact this e
    have e : stored acc kv.1 kv.2 = acc ++ [kv] := by
      unfold stored
      rw [hn]
      rfl
    show merged (stored acc kv.1 kv.2) kvs = _
    rw [e, merged_nodup kvs (acc ++ [kv]) (by simpa using h)]
    simp
theorem dct_ok {fd : FuncData} {f : FnD} {fa : Addr} {o : Obj} {es : List (Str × V)} (hlim : hT.NoLimit) (ho : hT.get? fa = some o) (hd : o.data = .func fd) (F : FdOK hT.toHeap fd f) (he : dctIn f = some es) :
    ∀ (A : Around) (H : Hp) (σ : List Addr) (s : Shared) (Q : Value → Shared → Prop) (E : Value → Shared → Prop), Room A n → WR hT σ H s.heap → σ₀ <+: σ →
        (∀ r h' tk, WR hT σ H h' → DctAt prog w h' r es → Ext z.x [] H.length σ s.heap σ h' → Q (.ref r) { s with heap := h', toks := tk }) → wpAny (model prog w) A (call (.ref fa) []) Q E s := by
  intro A H σ s Q E room wr tab k
  have hd9 := room.hd
  unfold dctIn at he
  split at he
  · rename_i ks vs pos pos' hp hb
    obtain ⟨es', h1, h2⟩ := Option.bind_eq_some_iff.mp he
    split at h2
    · rename_i hc
      cases h2
      refine wpAny_call (codeAny_call_cells (body := f.body) (binds := []) (by show A.depth < 1000; lia) (wr.top _ _ ho) hd (hlim.keeps wr.top) (F.code.keeps wr.top) F.body (by have := F.bind [] (by rw [hp]; rfl); rw [hp] at this; exact this) F.clo ?_ ?_
        (by rw [F.scope]; exact F.co) (by rw [F.scope]; exact F.gen) (by rw [F.scope]; exact F.kind))
      · intro x hx; cases hx
      · intro s₁ hI
        generalize callEnvC fd s.heap.objs.size fa = env at hI
        obtain ⟨h₁, tk₁, rfl⟩ := hI.toInCall.same
        have hkeep : ∀ a o, s.heap.get? a = some o → h₁.get? a = some o := hI.toInCall.keep
        rw [hb]
        obtain ⟨e1, e2⟩ := pairs_shape (pos := pos) (env := env) h1
        refine wpAny_execs_cons (wpAny_Return_some ?_)
        refine wpAny_Dict_pairs (knd := PySem.strKind prog w) e1 ?_ (by lia) ?_
        · intro e; rw [e] at e2; simp at e2; lia
        · refine pairs_eval h1 fun ps kvs tk hkv => ⟨kvs, hkv.carries, Heap.DictOf.new _, fun h' hD hS => ?_⟩
          have hnd : (kvs.map (·.1)).Nodup := by rw [hkv.keys]; exact hc.2.2
          rw [merged_nodup kvs [] (by simpa using hnd), List.nil_append] at hD
          have hall : ∀ a o, s.heap.get? a = some o → h'.get? a = some o := fun a o e => by
            have e1 := hkeep a o e
            have ha : a ≠ h₁.objs.size := fun q => by rw [q, get_size] at e1; cases e1
            rw [hS.2 a ha]
            exact Heap.get?_push_of_some _ e1
          refine k _ h' _ (wr.keeps hall) ?_ (Ext.keeps hall)
          obtain ⟨od, eds, ep, d1, d2, d3⟩ := hD
          refine ⟨od, d1, d2.1, (by have q := d3.1; rw [q]; intro _ e; cases e), fun kk v t σ' A' s' Q' E' hl hg hq => ?_⟩
          obtain ⟨vw, v1, v2⟩ := hkv.find hl
          have hD' : s'.heap.DictOf (PySem.strKind prog w) h₁.objs.size kvs := ⟨od, eds, ep, hg, d2, d3⟩
          exact wpAny_getItem_of (knd := PySem.strKind prog w) (by simp [PySem.strKind, Value.isStrOf]) hD'.mapOf v1 (hq _ _ (v2 _ _))
    · cases h2
  · cases he
end
end Mine
end

section
set_option autoImplicit false
set_option maxRecDepth 100000
namespace Mine
open PySem PyProof.Rows PySem.W

structure FdS (fd : FuncData) (f : FnD) : Prop where
  body : fd.body = .stmts f.body
  scope : fd.scope = f.scope
  clo : fd.closure = []
  glob : fd.globals = mainGlobals
  blt : fd.builtins = builtinsNs
  kind : f.scope.kind = .function
  gen : f.scope.isGenerator = false
  co : f.scope.isCoroutine = false
  bind : ∀ vals : List Value, vals.length = f.params.length → bindArgs fd ⟨vals, []⟩ = pure (f.params.zip vals)
  own : (f.params.all fun x => ownName f.scope x) = true
  nofree : (f.scope.names.all fun p => p.2 != .free) = true

noncomputable def FnAtK (K : Frag) (es : Array DictEntry) (p : Str × FnD) : Prop :=
  ∃ fa o fd c oc vs t, nsFind es p.1 = some (.ref fa) ∧ K.lookup fa = some o ∧ o.data = .func fd ∧ FdS fd p.2 ∧ fd.code = .ref c ∧ K.lookup c = some oc ∧ oc.data = .fields vs ∧ vs[1]? = some (.str fd.qualname t) ∧ (CPs.any fun p => p.1 == c) = true

theorem boot_bval : (bvals.all fun p => decide (bootBuiltins p.1 = some p.2) && decide (p.1 ≠ "__name__")) = true := by decide +kernel

/-- what the top of a law leaves, as far as the small reading needs it -/
structure TopK (prog : Program) (K : Frag) (es : Array DictEntry) (tv : List (Str × V)) (σ₀ : List Addr) : Prop where
  glob : ∃ o ep, K.lookup mainGlobals = some o ∧ o.data = .dict es ep
  vals : ∀ x v, tv.lookup x = some v → ∃ wv, nsFind es x = some wv ∧ ∀ h, K.In h → VR σ₀ h v wv
  miss : (bvals.all fun p => (nsFind es p.1).isNone) = true
  fns : ∀ p ∈ fnList prog.main.body, FnAtK K es p

theorem cp_of {c : Addr} (h : (CPs.any fun p => p.1 == c) = true) : ∃ p ∈ CPs, Value.ref c = .ref p.1 := by
  obtain ⟨p, hp, e⟩ := List.any_eq_true.mp h
  exact ⟨p, hp, by rw [beq_iff_eq.mp e]⟩
theorem base_ok_K {z : Zm} {prog : Program} {w : World} {K : Frag} {es : Array DictEntry} {tv : List (Str × V)} {σ₀ : List Addr} {hT : TT} {mg mb : Str → Option Value} (Z : ZOK z hT) (T : TopK prog K es tv σ₀) (X : K.In hT.toHeap) (hg : hT.Ns mainGlobals mg) (hb : hT.Ns builtinsNs mb)
    (hbb : ∀ x : Str, x ≠ "__name__" → mb x = bootBuiltins x) (hlim : hT.NoLimit) (hbm : ∃ mg bm ob, BMod hT.toHeap mainGlobals mg bm ob) (u : Bool) : ∀ d, Base z prog w hT σ₀ (d + 1) (globs prog (fun x => tv.lookup x) u d) := by
  obtain ⟨o3, ep3, k3, d3⟩ := T.glob
  have hg' : hT.Ns mainGlobals (fun x => nsFind es x) := by
    obtain ⟨o, es', ep, h1, h2, h3, h4⟩ := hg
    rw [X _ _ k3] at h1
    cases h1
    rw [d3] at h2
    cases h2
    exact ⟨o3, es, ep3, X _ _ k3, d3, h3, fun _ => rfl⟩
  have hv : ∀ x v, tv.lookup x = some v → ∃ wv, nsFind es x = some wv ∧ VR σ₀ hT.toHeap v wv := fun x v hx => let ⟨wv, e1, e2⟩ := T.vals x v hx; ⟨wv, e1, e2 _ X⟩
  have hm : ∀ x fv, bval x = some fv → nsFind es x = none := fun x fv h => Option.isNone_iff_eq_none.mp (List.all_eq_true.mp T.miss _ (mem_of_lookup h))
  have hbt : ∀ x fv, bval x = some fv → mb x = some fv := fun x fv h => by
    have := Bool.and_eq_true_iff.mp (List.all_eq_true.mp boot_bval _ (mem_of_lookup h))
    rw [hbb x (of_decide_eq_true this.2)]
    exact of_decide_eq_true this.1
  have fdok : ∀ {x : Str} {f : FnD}, fnOf prog x = some f → ∃ fa o fd, nsFind es x = some (.ref fa) ∧ hT.get? fa = some o ∧ o.data = .func fd ∧ FdOK hT.toHeap fd f := fun {x f} hf => by
    obtain ⟨fa, o, fd, c, oc, vs, t, e1, e2, e3, S, e5, e6, e7, e8, e9⟩ := T.fns _ (mem_of_lookup hf)
    exact ⟨fa, o, fd, e1, X _ _ e2, e3, ⟨S.body, S.scope, S.clo, S.glob, S.blt, S.kind, S.gen, S.co, S.bind, fun x hx => List.all_eq_true.mp S.own x hx, fun p hp => by have := List.all_eq_true.mp S.nofree p hp; simpa using this,
      ⟨c, oc, vs, t, e5, X _ _ e6, e7, e8⟩, by rw [e5]; exact cp_of e9⟩⟩
  intro d
  induction d with
  | zero =>
    refine ⟨⟨_, hg', hv, hm, fun x hx => ?_, fun x es' h => nn h⟩, ⟨mb, hb, hbt⟩, hlim, hbm⟩
    obtain ⟨f, hf⟩ := Option.isSome_iff_exists.mp hx
    obtain ⟨fa, o, fd, e1, e2, e3, _⟩ := fdok hf
    exact ⟨fa, o, fd, e1, e2, e3, fun args H v H' he => nn he⟩
  | succ d ih =>
    refine ⟨⟨_, hg', hv, hm, fun x hx => ?_, fun x es' h => ?_⟩, ⟨mb, hb, hbt⟩, hlim, hbm⟩
    · obtain ⟨f, hf⟩ := Option.isSome_iff_exists.mp hx
      obtain ⟨fa, o, fd, e1, e2, e3, F⟩ := fdok hf
      refine ⟨fa, o, fd, e1, e2, e3, ?_⟩
      have key := runFn_ok (f := f) (g := globs prog (fun x => tv.lookup x) u d) Z ih hlim e2 e3 F
      intro args H v H' he
      refine key args H v H' ?_
      have he' : ((fnOf prog x).bind fun f => runFn (globs prog (fun x => tv.lookup x) u d) f args H) = some (v, H') := he
      rw [hf] at he'
      exact he'
    · have h' : (if u then (fnOf prog x).bind dctIn else none) = some es' := h
      obtain ⟨_, h'⟩ := ite_eq h'
      obtain ⟨f, hf, hdc⟩ := bind_eq h'
      obtain ⟨fa, o, fd, e1, e2, e3, F⟩ := fdok hf
      exact ⟨fa, o, fd, e1, e2, e3, dct_ok hlim e2 e3 F hdc⟩

/-- the heap without the lists of inner codes -/
noncomputable def red (h : Heap) : Heap := { objs := h.objs.mapIdx fun i o => if (CPs.any fun p => p.2 == i) then { o with data := .freed } else o, life := h.life }
theorem red_in {h : Heap} {p : Addr × Addr} (hp : p ∈ CPs) : (red h).get? p.2 = none := by
  have hc : (CPs.any fun q => q.2 == p.2) = true := List.any_eq_true.mpr ⟨p, hp, beq_self_eq_true _⟩
  unfold red Heap.get?
  rw [Array.getElem?_mapIdx]
  cases h.objs[p.2]? with
  | none => rfl
  | some o => simp only [Option.map_some, hc, if_true]
theorem red_out {h : Heap} {a : Addr} (hp : notP a) : (red h).get? a = h.get? a := by
  have hc : (CPs.any fun q => q.2 == a) = false := by
    rw [List.any_eq_false]
    intro p hm e
    exact hp p hm (beq_iff_eq.mp e).symm
  unfold red Heap.get?
  simp only [Array.getElem?_mapIdx]
  cases h.objs[a]? with
  | none => rfl
  | some o => simp only [Option.map_some, hc, Bool.false_eq_true, if_false]
theorem red_sub {h : Heap} {a : Addr} {o : Obj} (e : (red h).get? a = some o) : h.get? a = some o := by
  by_cases hp : notP a
  · rw [red_out hp] at e; exact e
  · obtain ⟨p, hm, hq⟩ : ∃ p ∈ CPs, a = p.2 := by
      apply Classical.byContradiction
      intro hn
      exact hp fun p hm hq => hn ⟨p, hm, hq⟩
    rw [hq, red_in hm] at e; exact nn e
end Mine
end

section
set_option autoImplicit false
set_option maxRecDepth 100000
namespace Mine
open PySem PyProof.Rows PySem.W

theorem Ns.red {h : Heap} {a : Addr} {m : Str → Option Value} (hc : ∀ p ∈ CPs, ∃ ps, IsCd h p ps) (x : h.Ns a m) : (red h).Ns a m :=
  let ⟨o, es, ep, e, d, r⟩ := x
  ⟨o, es, ep, (red_out (notP_of hc e (by rw [d]; intro _ q; cases q))).trans e, d, r⟩
noncomputable def zB : Zm := ⟨AllBare, true⟩
/-- the law's call -/
theorem law_glue {prog : Program} {w : World} {K : Frag} {es : Array DictEntry} {tv : List (Str × V)} {s₁ : Shared} {mg mb : Str → Option Value} {fa a : Addr} {vs : List Value} {ns : List Int} {d : Nat} {H' : Hp} {u : Bool} {Q E : Value → Shared → Prop}
    (T : TopK prog K es tv []) (X : K.In s₁.heap) (hKP : ∀ a o, K.lookup a = some o → notP a) (hcd : ∀ p ∈ CPs, IsCd s₁.heap p #[]) (hbm : ∃ mg bm ob, BMod s₁.heap mainGlobals mg bm ob)
    (hg : s₁.heap.Ns mainGlobals mg) (hb : s₁.heap.Ns builtinsNs mb) (hbb : ∀ x : Str, x ≠ "__name__" → mb x = bootBuiltins x) (hlim : s₁.heap.NoLimit) (hfa : mg "law" = some (.ref fa)) (hfn : (fnOf prog "law").isSome = true) (hgen : AllBare s₁.gens)
    (hl : s₁.heap.get? a = some { cls := .type "list", data := .seq vs.toArray }) (hI : IntsAre vs ns) (hlen : ns.length ≤ 63) (hd : d ≤ 100)
    (hrun : (globs prog (fun x => tv.lookup x) u d).fn "law" [.ref 0] [ns.map V.int] = some (.bool true, H'))
    (hQ : ∀ h' tk gs, OldK s₁.heap h' → AllBare gs → Q (.bool true) { s₁ with heap := h', toks := tk, gens := gs }) : wpAny (model prog w) callerA (call (.ref fa) [.ref a]) Q E s₁ := by
  have hcd' : ∀ p ∈ CPs, ∃ ps, IsCd s₁.heap p ps := fun p hp => ⟨_, hcd p hp⟩
  have X' : K.In (red s₁.heap) := fun a o e => (red_out (hKP a o e)).trans (X a o e)
  have hg2 : (red s₁.heap).Ns mainGlobals mg := Ns.red hcd' hg
  have hlim2 : (red s₁.heap).NoLimit := let ⟨mc, h1, h2⟩ := hlim; ⟨mc, Ns.red hcd' h1, h2⟩
  have hbm2 : ∃ mg bm ob, BMod (red s₁.heap) mainGlobals mg bm ob := by
    obtain ⟨mg', bm, ob, M⟩ := hbm
    exact ⟨mg', bm, ob, Ns.red hcd' M.ns, M.name, M.ne, (red_out (notP_of hcd' M.obj (by rw [M.data]; intro _ q; cases q))).trans M.obj, M.cls, M.dict, M.data⟩
  have B := base_ok_K (z := zB) (w := w) (hT := ⟨red s₁.heap, true⟩) ⟨fun _ h => h, fun _ h => h, rfl, rfl⟩ T X' hg2 (Ns.red hcd' hb) hbb hlim2 hbm2 u d
  obtain ⟨o3, ep3, k3, d3⟩ := T.glob
  have key : ∀ {mg' : Str → Option Value}, (red s₁.heap).Ns mainGlobals mg' → ∀ x, nsFind es x = mg' x := fun {mg'} h x => by
    obtain ⟨o, es', ep, h1, h2, h3, h4⟩ := h
    rw [X' _ _ k3] at h1
    cases h1
    rw [d3] at h2
    cases h2
    exact h4 x
  obtain ⟨mg', hg', _, _, h3, _⟩ := B.gns
  obtain ⟨fa', o, fd, e1, e2, e3, FS⟩ := h3 "law" (by cases d <;> exact hfn)
  rw [← key hg' "law", key hg2 "law", hfa] at e1
  cases e1
  have wr : WR ⟨red s₁.heap, true⟩ [a] [ns.map V.int] s₁.heap := by
    refine ⟨rfl, fun i xs r h1 h2 => ?_, List.pairwise_singleton _ _, fun _ _ e => red_sub e, hcd', fun p hp => ⟨?_, red_in hp⟩⟩
    · cases i with
      | zero =>
        cases h1; cases h2
        refine ⟨vs.toArray, ⟨0, hl⟩, ints_back hI, ?_⟩
        rw [List.length_map]; exact Nat.le_trans hlen (by decide)
      | succ i => exact nn h1
    · obtain ⟨⟨o, _, e, _⟩, _⟩ := (hcd p hp).2
      exact ⟨o, (red_out (fun q hq => CPs_ne p hp q hq)).trans e⟩
  refine FS [.ref 0] _ _ _ hrun callerA [a] s₁ Q E [.ref a] ⟨rfl, ?_, ?_⟩ wr ⟨[a], rfl⟩ (.cons (.ref rfl) .nil) (fun wv h' tk σ' wr' hv ex => ?_) hgen
  · show callerA.depth + (d + 1) < 900
    have : callerA.depth ≤ 500 := by decide
    lia
  · show callerA.units + 10 * (d + 1) + 300 < cLine
    have : callerA.units ≤ 500 := by decide
    have : cLine = 9900 := rfl
    lia
  · cases hv.bool_inv
    refine hQ h' tk.n tk.gs ⟨fun b o e => ?_, ex.there⟩ tk.pos
    by_cases hp : notP b
    · exact .inl (ex.keep b o e (fun h => nomatch h) (fun h => nomatch h) fun _ => hp)
    · obtain ⟨p, hm, hq⟩ : ∃ p ∈ CPs, b = p.2 := by
        apply Classical.byContradiction
        intro hn
        exact hp fun p hm hq => hn ⟨p, hm, hq⟩
      subst hq
      have e0 := (hcd p hm).2.2
      rw [e0] at e
      cases e
      obtain ⟨ps, _, tb⟩ := wr'.code p hm
      exact .inr (.inl ⟨(hcd p hm).2.isCodeTable, rfl, #[], ps, rfl, by rw [tb.2, Array.empty_append]⟩)
end Mine
end

section
set_option autoImplicit false
set_option maxRecDepth 100000
namespace Mine
open PySem PyProof.Rows PySem.W

theorem bind_1 {fd : FuncData} {ps : List Str} (hl : ps.length = 1) (h : ∀ a, bindArgs fd ⟨[a], []⟩ = pure (ps.zip [a])) (vals : List Value) (e : vals.length = ps.length) : bindArgs fd ⟨vals, []⟩ = pure (ps.zip vals) := by
  obtain ⟨a, rfl⟩ := List.length_eq_one_iff.mp (e.trans hl)
  exact h a
theorem len_cons {α : Type} {l : List α} {n : Nat} (e : l.length = n + 1) : ∃ a r, l = a :: r ∧ r.length = n := by
  cases l with
  | nil => cases e
  | cons a r => exact ⟨a, r, rfl, Nat.succ.inj e⟩
theorem bind_2 {fd : FuncData} {ps : List Str} (hl : ps.length = 2) (h : ∀ a b, bindArgs fd ⟨[a, b], []⟩ = pure (ps.zip [a, b])) (vals : List Value) (e : vals.length = ps.length) : bindArgs fd ⟨vals, []⟩ = pure (ps.zip vals) := by
  obtain ⟨a, r, rfl, e1⟩ := len_cons (e.trans hl)
  obtain ⟨b, rfl⟩ := List.length_eq_one_iff.mp e1
  exact h a b
theorem bind_3 {fd : FuncData} {ps : List Str} (hl : ps.length = 3) (h : ∀ a b c, bindArgs fd ⟨[a, b, c], []⟩ = pure (ps.zip [a, b, c])) (vals : List Value) (e : vals.length = ps.length) : bindArgs fd ⟨vals, []⟩ = pure (ps.zip vals) := by
  obtain ⟨a, r, rfl, e1⟩ := len_cons (e.trans hl)
  obtain ⟨b, r, rfl, e2⟩ := len_cons e1
  obtain ⟨c, rfl⟩ := List.length_eq_one_iff.mp e2
  exact h a b c
theorem bind_4 {fd : FuncData} {ps : List Str} (hl : ps.length = 4) (h : ∀ a b c d, bindArgs fd ⟨[a, b, c, d], []⟩ = pure (ps.zip [a, b, c, d])) (vals : List Value) (e : vals.length = ps.length) : bindArgs fd ⟨vals, []⟩ = pure (ps.zip vals) := by
  obtain ⟨a, r, rfl, e1⟩ := len_cons (e.trans hl)
  obtain ⟨b, r, rfl, e2⟩ := len_cons e1
  obtain ⟨c, r, rfl, e3⟩ := len_cons e2
  obtain ⟨d, rfl⟩ := List.length_eq_one_iff.mp e3
  exact h a b c d
theorem bind_0 {fd : FuncData} {ps : List Str} (hl : ps.length = 0) (h : bindArgs fd ⟨[], []⟩ = pure (ps.zip [])) (vals : List Value) (e : vals.length = ps.length) : bindArgs fd ⟨vals, []⟩ = pure (ps.zip vals) := by
  cases List.length_eq_zero_iff.mp (e.trans hl)
  exact h

noncomputable def AllP {α : Type} (P : α → Prop) : List α → Prop
  | [] => True
  | x :: r => P x ∧ AllP P r
theorem AllP.all {α : Type} {P : α → Prop} : ∀ {l : List α}, AllP P l → ∀ p ∈ l, P p
  | _ :: _, h, _, .head _ => h.1
  | _ :: _, h, _, .tail _ m => AllP.all h.2 _ m

noncomputable def esOf (K : Frag) : Array DictEntry := match K.lookup mainGlobals with
  | some o => (match o.data with | .dict es _ => es | _ => #[])
  | none => #[]
end Mine
namespace Mine
open PySem PyProof.Rows PySem.W
theorem plain_of {P : Params} {h : Heap} {a : Addr} {vs : List Value} {xs : List PyData} (hw : Well P h (.ref a) (ofPy (.list xs))) (hL : h.IsList a vs.toArray) : h.get? a = some { cls := .type "list", data := .seq vs.toArray } := by
  have hw' : Well P h (.ref a) (.list (ofPys xs)) := hw
  cases hw' with
  | list h1 h2 =>
    obtain ⟨o, e1, e2, n, e3⟩ := hL
    rw [h1] at e1
    cases e1
    cases e3
    exact h1
theorem good_end {c : ClaimW} {cl : Str → Option Addr} {mean : ExcName → Option Value} {args : List WData} {s₁ : Shared} {h' : Heap} {tk : Nat} {gs : Array GenState} (hr : ∀ cls, c.raises args cls = false) (hp : c.post args (.bool true) args = true) (hk : OldK s₁.heap h') (hg : AllBare gs) :
    GoodWG c cl mean args s₁ (.ok (.ret (.bool true))) { s₁ with heap := h', toks := tk, gens := gs } :=
  ⟨.inl ⟨_, _, [], rfl, hr, ReadsW.bool true, hp, fun _ => ⟨List.nodup_nil, fun _ hm => (nomatch hm)⟩⟩, hk, rfl, hg⟩
end Mine
end

section
set_option autoImplicit false
namespace Mine
open PySem

theorem fn_eq (p : Program) (val : Str → Option V) (u : Bool) (d : Nat) (x : Str) (args : List V) (h : Hp) : (globs p val u (d + 1)).fn x args h = (fnOf p x).bind fun f => runFnC (globs p val u d) f args h := by
  show ((fnOf p x).bind fun f => runFn (globs p val u d) f args h) = _
  congr 1
  funext f
  exact runFn_eq ..

noncomputable def finN (_ _ : Nat) (ρ : Rho) (h : Hp) : Option (Fl × Rho × Hp) := some (.next, ρ, h)

noncomputable def b_len : Str := ⟨#[108, 101, 110]⟩
noncomputable def b_sorted : Str := ⟨#[115, 111, 114, 116, 101, 100]⟩
noncomputable def b_any : Str := ⟨#[97, 110, 121]⟩
noncomputable def m_append : Str := ⟨#[97, 112, 112, 101, 110, 100]⟩
noncomputable def m_pop : Str := ⟨#[112, 111, 112]⟩
noncomputable def m_join : Str := ⟨#[106, 111, 105, 110]⟩
noncomputable def bindNs : List Str → List V → Rho → Option Rho
  | [], [], ρ => some ρ
  | x :: r, v :: vs, ρ => bindNs r vs (upd ρ x v)
  | _, _, _ => none
noncomputable def bind2 (a b : Str) (x : V) (ρ : Rho) : Option Rho := match x with | .tup vs => bindNs [a, b] vs ρ | _ => none
section
variable (h : Hp) (b : Nat)
theorem callB_len (as : List V) : callB b_len as h = one (lenV h) as := if_pos (by decide)
theorem len_str (s : Str) : callB b_len [.str s] h = some (.int s.length, h) := callB_len h _
theorem len_ref {a : Nat} {xs : List V} (e : h[a]? = some xs) : callB b_len [.ref a] h = some (.int xs.length, h) := (callB_len h _).trans (by show (h[a]?).map _ = _; rw [e]; rfl)
theorem callB_sorted (as : List V) : callB b_sorted as h = one (refV (sortedV h)) as := (if_neg (by decide)).trans (if_pos (by decide))
theorem callB_any (as : List V) : callB b_any as h = one (refV (anyV h)) as := (if_neg (by decide)).trans ((if_neg (by decide)).trans (if_pos (by decide)))
theorem callM_append (a : Nat) (as : List V) : callM b m_append (.ref a) as h = one (appendV b h a) as := by delta callM; exact if_pos (by decide)
theorem callM_pop (a : Nat) (as : List V) : callM b m_pop (.ref a) as h = popV b h a as := by delta callM; exact (if_neg (by decide)).trans (if_pos (by decide))
theorem append_ref {a : Nat} {xs : List V} (v : V) (e : h[a]? = some xs) (h1 : b ≤ a) (h2 : xs.length ≤ 1000000) : callM b m_append (.ref a) [v] h = some (.none, h.set a (xs ++ [v])) := by
  rw [callM_append]
  show (h[a]?).bind _ = _
  rw [e]
  exact if_pos ⟨h1, h2⟩
theorem pop_ref {a : Nat} {xs : List V} (e : h[a]? = some xs) (h1 : b ≤ a) : callM b m_pop (.ref a) [] h = (xs.getLast?).map fun v => (v, h.set a xs.dropLast) := by
  rw [callM_pop]
  show (h[a]?).bind _ = _
  rw [e]
  exact if_pos h1
theorem join_str (s : Str) (as : List V) : callM b m_join (.str s) as h = one (refV (joinV h s)) as := by delta callM; exact if_pos (by decide)
end

/-! loops -/
theorem loopS_rule {c : Option Nat} {all : List V} {f : V → Rho → Hp → Option (Fl × Rho × Hp)} (I : Nat → Rho → Hp → Prop)
    (hstep : ∀ i x ρ h, all[i]? = some x → I i ρ h → chk c all h = true ∧ ∃ ρ' h', (f x ρ h = some (.next, ρ', h') ∨ f x ρ h = some (.cont, ρ', h')) ∧ I (i + 1) ρ' h')
    (hend : ∀ ρ h, I all.length ρ h → chk c all h = true) {ρ : Rho} {h : Hp} (h0 : I 0 ρ h) :
    ∃ ρ' h', loopS c all f all ρ h = some (.next, ρ', h') ∧ I all.length ρ' h' := by
  suffices H : ∀ (rest : List V) (i : Nat) (ρ : Rho) (h : Hp), all.drop i = rest → I i ρ h → i ≤ all.length → ∃ ρ' h', loopS c all f rest ρ h = some (.next, ρ', h') ∧ I all.length ρ' h' from H all 0 ρ h rfl h0 (Nat.zero_le _)
  intro rest
  induction rest with
  | nil =>
    intro i ρ h hd hi hl
    have : i = all.length := by
      have := congrArg List.length hd
      simp at this
      lia
    subst this
    exact ⟨ρ, h, by simp [loopS, hend _ _ hi], hi⟩
  | cons x rest ih =>
    intro i ρ h hd hi hl
    have hx : all[i]? = some x := by rw [← List.head?_drop, hd]; (try rfl)
    have hr : all.drop (i + 1) = rest := by rw [← List.tail_drop, hd]; (try rfl)
    obtain ⟨hc, ρ', h', hf, hi'⟩ := hstep i x ρ h hx hi
    obtain ⟨ρ2, h2, e2, i2⟩ := ih (i + 1) ρ' h' hr hi' (by
      have := (List.getElem?_eq_some_iff.mp hx).1
      lia)
    refine ⟨ρ2, h2, ?_, i2⟩
    unfold loopS
    rw [if_pos hc]
    rcases hf with hf | hf <;> rw [hf] <;> exact e2
theorem chk_none (items : List V) (h : Hp) : chk none items h = true := rfl
theorem chk_some {a : Nat} {items : List V} {h : Hp} (e : h[a]? = some items) : chk (some a) items h = true := @decide_eq_true _ (Classical.propDecidable _) e

theorem seqIndex_nat {k n : Nat} (h : k < n) : seqIndex? (k : Int) n = some k := by
  unfold seqIndex?
  have h1 : ¬ ((k : Int) < 0) := by lia
  have h2 : (0 : Int) ≤ k := by lia
  have h3 : (k : Int) < n := by lia
  simp [h1, h2, h3]
theorem seqIndex_pos {i : Int} {n : Nat} (h0 : 0 ≤ i) (h : i.toNat < n) : seqIndex? i n = some i.toNat := by
  obtain ⟨k, rfl⟩ := Int.eq_ofNat_of_zero_le h0
  exact seqIndex_nat h
theorem seqIndex_neg {i : Int} {n k : Nat} (h0 : i < 0) (h : i + n = k) (hk : k < n) : seqIndex? i n = some k := by
  unfold seqIndex?
  have h2 : (0 : Int) ≤ i + n := by lia
  have h3 : i + n < n := by lia
  simp only [h0, if_true, h2, h3, decide_true, Bool.and_self]
  congr 1
  lia
theorem idx_ref {h : Hp} {a : Nat} {xs : List V} {i : Int} {v : V} (e : h[a]? = some xs) (h0 : 0 ≤ i) (hv : xs[i.toNat]? = some v) : idx (.ref a) (.int i) h = some v := by
  have hl := (List.getElem?_eq_some_iff.mp hv).1
  simp only [idx, e, Option.bind_some, seqIndex_pos h0 hl, hv]
theorem idx_str {h : Hp} {s : Str} {i : Int} {c : Nat} (h0 : 0 ≤ i) (hv : s.cps[i.toNat]? = some c) : idx (.str s) (.int i) h = some (.str ⟨#[c]⟩) := by
  have hl := (Array.getElem?_eq_some_iff.mp hv).1
  have hl' : i.toNat < s.length := hl
  simp only [idx, Option.bind_some, seqIndex_pos h0 hl', hv, Option.map_some]
theorem fmod_lo (a : Int) {b : Int} (h : 0 < b) : 0 ≤ a.fmod b := Int.fmod_nonneg_of_pos a h
theorem fmod_hi (a : Int) {b : Int} (h : 0 < b) : a.fmod b < b := Int.fmod_lt_of_pos a h

/-- a cell of the script -/
noncomputable def cell (ns : List Int) (k : Nat) : Int := (ns[k]?).getD 0

section
variable (h : Hp) (a b : Int) (s t : Str)
theorem bi_add : binop .Add (.int a) (.int b) h = some (.int (a + b), h) := rfl
theorem bi_sub : binop .Sub (.int a) (.int b) h = some (.int (a - b), h) := rfl
theorem bi_mul {a : Int} (ha : Builtin.Int.intBits a ≤ 64) : binop .Mult (.int a) (.int b) h = some (.int (a * b), h) := if_pos ha
theorem bi_mod {b : Int} (hb : b ≠ 0) : binop .Mod (.int a) (.int b) h = some (.int (a.fmod b), h) := if_neg hb
theorem bi_fdiv {b : Int} (hb : b ≠ 0) (hc : b.natAbs < 1073741824) : binop .FloorDiv (.int a) (.int b) h = some (.int (a.fdiv b), h) := if_pos ⟨hb, hc⟩
theorem bl_add {x y : Nat} {xs ys : List V} (e1 : h[x]? = some xs) (e2 : h[y]? = some ys) (hl : xs.length + ys.length ≤ sizeLine) : binop .Add (.ref x) (.ref y) h = some (.ref h.length, h ++ [xs ++ ys]) := by
  show (h[x]?).bind _ = _
  rw [e1]
  show (h[y]?).bind _ = _
  rw [e2]
  exact if_pos hl
theorem ci_eq : cmpop .Eq (.int a) (.int b) h = some (a == b) := rfl
theorem cs_eq : cmpop .Eq (.str s) (.str t) h = some (s == t) := rfl
theorem cb_eq (x y : Bool) : cmpop .Eq (.bool x) (.bool y) h = some (x == y) := rfl
theorem cb_ne (x y : Bool) : cmpop .NotEq (.bool x) (.bool y) h = some (!(x == y)) := rfl
theorem ci_lt : cmpop .Lt (.int a) (.int b) h = some (decide (a < b)) := rfl
theorem ci_ge : cmpop .GtE (.int a) (.int b) h = some (decide (b ≤ a)) := rfl
theorem cb_is (x y : Bool) : cmpop .Is (.bool x) (.bool y) h = some (x == y) := rfl
theorem cb_isNot (x y : Bool) : cmpop .IsNot (.bool x) (.bool y) h = some (x != y) := rfl
theorem truth_bool (x : Bool) : truthV (.bool x) = some x := rfl
theorem rA1 {n : Int} (h : n.natAbs ≤ 2 ^ 40) : rangeArgs [.int n] = some (0, n) := if_pos h
theorem rA2 {m n : Int} (h : m.natAbs ≤ 2 ^ 40) (h2 : n.natAbs ≤ 2 ^ 40) : rangeArgs [.int m, .int n] = some (m, n) := if_pos ⟨h, h2⟩
end
end Mine
end

section
set_option autoImplicit false
namespace Mine
open PySem

theorem get_last (H : Hp) (xs : List V) : (H ++ [xs])[H.length]? = some xs := by simp
theorem get_pre {H : Hp} {a : Nat} {ys : List V} (L : Hp) (e : H[a]? = some ys) : (H ++ L)[a]? = some ys := by
  have := (List.getElem?_eq_some_iff.mp e).1
  rw [List.getElem?_append_left this, e]
theorem set_last (H : Hp) (xs ys : List V) : (H ++ [xs]).set H.length ys = H ++ [ys] := by
  induction H with
  | nil => rfl
  | cons x H ih => exact congrArg (x :: ·) ih

section
variable {h : Hp} {a b : Nat} {xs : List V} {u v w : V}
theorem idx_m1 (e : h[a]? = some (xs ++ [v])) : idx (.ref a) (.int (-1)) h = some v := by
  simp only [idx, e, Option.bind_some]
  rw [seqIndex_neg (k := xs.length) (by lia) (by simp; lia) (by simp)]
  simp
theorem idx_m2 (e : h[a]? = some (xs ++ [u, v])) : idx (.ref a) (.int (-2)) h = some u := by
  simp only [idx, e, Option.bind_some]
  rw [seqIndex_neg (k := xs.length) (by lia) (by simp; lia) (by simp)]
  simp
theorem setIdx_m1 (e : h[a]? = some (xs ++ [v])) (hb : b ≤ a) : setIdx b (.ref a) (.int (-1)) w h = some (h.set a (xs ++ [w])) := by
  simp only [setIdx, refInt, e, Option.bind_some]
  rw [seqIndex_neg (k := xs.length) (by lia) (by simp; lia) (by simp)]
  simp [hb]
theorem delIdx_m1 (e : h[a]? = some (xs ++ [v])) (hb : b ≤ a) : delIdx b (.ref a) (.int (-1)) h = some (h.set a xs) := by
  simp only [delIdx, refInt, e, Option.bind_some]
  rw [seqIndex_neg (k := xs.length) (by lia) (by simp; lia) (by simp)]
  simp [hb, List.eraseIdx_append_of_length_le]
end
/-! postfix items -/
inductive K8 where
  | chr (s : Str) | any | eps | star | plus | opt | cat | alt
noncomputable def K8.kind : K8 → Str
  | .chr _ => ⟨#[99, 104, 114]⟩ | .any => ⟨#[97, 110, 121]⟩ | .eps => ⟨#[101, 112, 115]⟩ | .star => ⟨#[115, 116, 97, 114]⟩
  | .plus => ⟨#[112, 108, 117, 115]⟩ | .opt => ⟨#[111, 112, 116]⟩ | .cat => ⟨#[99, 97, 116]⟩ | .alt => ⟨#[97, 108, 116]⟩
noncomputable def K8.sign : K8 → Str
  | .chr s => s
  | _ => ⟨#[]⟩
noncomputable def K8.tup (k : K8) : V := .tup [.str k.kind, .str k.sign]
/-! equal lists -/
theorem rdAll_isSome {f : V → Option PyData} : ∀ {xs : List V}, (∀ v ∈ xs, (f v).isSome = true) → ∃ ds, rdAll f xs = some ds
  | [], _ => ⟨[], rfl⟩
  | v :: xs, h => by
    obtain ⟨d, hd⟩ := Option.isSome_iff_exists.mp (h v (List.mem_cons_self ..))
    obtain ⟨ds, hds⟩ := rdAll_isSome (xs := xs) fun w hw => h w (List.mem_cons_of_mem _ hw)
    exact ⟨d :: ds, by simp only [rdAll, hd, hds, Option.bind_some, Option.map_some]⟩
theorem eqV_same {h : Hp} {a a' : Nat} {xs : List V} (e : h[a]? = some xs) (e' : h[a']? = some xs) (hx : ∀ v ∈ xs, (rd 7 h v).isSome = true) : eqV h (.ref a) (.ref a') = some true := by
  obtain ⟨ds, hds⟩ := rdAll_isSome hx
  have r1 : rd 8 h (.ref a) = some (.list ds) := by show (h[a]?).bind (fun vs => (rdAll (rd 7 h) vs).map PyData.list) = _; rw [e, Option.bind_some, hds]; rfl
  have r2 : rd 8 h (.ref a') = some (.list ds) := by show (h[a']?).bind (fun vs => (rdAll (rd 7 h) vs).map PyData.list) = _; rw [e', Option.bind_some, hds]; rfl
  show ((rd 8 h (.ref a)).bind fun d => (rd 8 h (.ref a')).map fun e => PyData.eqv d e) = _
  rw [r1, r2]
  simp only [Option.bind_some, Option.map_some]
  rw [PySem.SeqAt.eqv_refl _ (rd_can (H := h) 8 _ _ r1).1]
theorem cl_ne {h : Hp} {a a' : Nat} {xs : List V} (e : h[a]? = some xs) (e' : h[a']? = some xs) (hx : ∀ v ∈ xs, (rd 7 h v).isSome = true) : cmpop .NotEq (.ref a) (.ref a') h = some false := by
  show (eqV h (.ref a) (.ref a')).map _ = _
  rw [eqV_same e e' hx]; rfl
theorem rd_str {n : Nat} {h : Hp} {s : Str} (hs : s.cps.all (· < 0x110000) = true) : (rd n h (.str s)).isSome = true := by
  cases n <;> (show (if _ then _ else _ : Option PyData).isSome = true) <;> rw [if_pos hs] <;> rfl
theorem rd_tup2 {n : Nat} {h : Hp} {s t : Str} (hs : s.cps.all (· < 0x110000) = true) (ht : t.cps.all (· < 0x110000) = true) : (rd (n + 1) h (.tup [.str s, .str t])).isSome = true := by
  obtain ⟨a, ha⟩ := Option.isSome_iff_exists.mp (rd_str (n := n) (h := h) hs)
  obtain ⟨b, hb⟩ := Option.isSome_iff_exists.mp (rd_str (n := n) (h := h) ht)
  show (((rd n h (.str s)).bind fun d => ((rd n h (.str t)).bind fun e => some [e]).map (d :: ·)).map PyData.tuple).isSome = true
  rw [ha, hb]; rfl
theorem K8.kind_ok (k : K8) : k.kind.cps.all (· < 0x110000) = true := by cases k <;> kernel_rfl
theorem K8.rd_ok {k : K8} {n : Nat} {h : Hp} (hs : k.sign.cps.all (· < 0x110000) = true) : (rd (n + 1) h k.tup).isSome = true := rd_tup2 k.kind_ok hs

/-! texts as lists of signs -/
noncomputable def S (l : List Nat) : Str := ⟨l.toArray⟩
theorem S_len (l : List Nat) : (S l).length = l.length := by simp [S, Str.length]
theorem S_list (l : List Nat) : (S l).cps.toList = l := rfl
theorem S_slice_to {h : Hp} {u v : List Nat} : slice (.str (S (u ++ v))) .none (.int u.length) .none h = some (.str (S u), h) := by
  simp only [slice, partV, Option.bind_some, S_list, cutL, Option.elim, List.drop_zero, Nat.sub_zero]
  have : clipAt (u ++ v).length (u.length : Int) = u.length := by
    unfold clipAt
    rw [if_neg (by lia), List.length_append]
    lia
  rw [this]
  simp [S]
theorem S_slice_from {h : Hp} {u v : List Nat} {i : Int} (hi : i = u.length) : slice (.str (S (u ++ v))) (.int i) .none .none h = some (.str (S v), h) := by
  subst hi
  simp only [slice, partV, Option.bind_some, S_list, cutL, Option.elim]
  have : clipAt (u ++ v).length (u.length : Int) = u.length := by
    unfold clipAt
    rw [if_neg (by lia), List.length_append]
    lia
  rw [this]
  simp [S]
theorem range_at {lo : Int} {n i : Nat} (h : i < n) : (rangeV lo (lo + n))[i]? = some (.int (lo + i)) := by
  have : (lo + (n : Int) - lo).toNat = n := by lia
  simp [rangeV, this, h]
theorem range_len (lo : Int) (n : Nat) : (rangeV lo (lo + n)).length = n := by
  have : (lo + (n : Int) - lo).toNat = n := by lia
  simp [rangeV, this]
theorem loop_range {n : Nat} {f : V → Rho → Hp → Option (Fl × Rho × Hp)} (I : Nat → Rho → Hp → Prop)
    (hstep : ∀ i, i < n → ∀ ρ h, I i ρ h → ∃ ρ' h', f (.int i) ρ h = some (.next, ρ', h') ∧ I (i + 1) ρ' h') {ρ : Rho} {h : Hp} (h0 : I 0 ρ h) :
    ∃ ρ' h', loopS none (rangeV 0 n) f (rangeV 0 n) ρ h = some (.next, ρ', h') ∧ I n ρ' h' := by
  have e : ∀ m : Nat, (m : Int) = 0 + m := fun m => (Int.zero_add _).symm
  have := loopS_rule (c := none) (all := rangeV 0 n) (f := f) I (fun i x ρ h hx hi => by
    have hlt : i < n := by
      have h1 := (List.getElem?_eq_some_iff.mp hx).1
      rw [e n, range_len] at h1; exact h1
    rw [e n, range_at hlt, ← e i] at hx
    cases hx
    obtain ⟨ρ', h', e1, e2⟩ := hstep i hlt ρ h hi
    exact ⟨rfl, ρ', h', Or.inl e1, e2⟩) (fun _ _ _ => rfl) h0
  rw [show (rangeV 0 n).length = n by rw [e n, range_len]] at this
  exact this
theorem get_ref {H : Hp} {xs : List V} {L : Hp} : (H ++ xs :: L)[H.length]? = some xs := by simp
end Mine
end

section
set_option autoImplicit false
namespace Mine
open PySem
theorem appendTo_last {h : Hp} {xs : List V} (v : V) (hl : xs.length ≤ 1000000) : appendTo h.length v (h ++ [xs]) = some (h ++ [xs ++ [v]]) := by
  unfold appendTo
  rw [get_last]
  simp only [Option.bind_some, hl, if_true, set_last]

/-! tables of truth values -/
noncomputable def tabAt (h : Hp) (M : List (List Bool)) : Hp := h ++ ((List.range M.length).map fun i => V.ref (h.length + 1 + i)) :: M.map fun row => row.map V.bool
theorem tabAt_nil (h : Hp) : h ++ [[]] = tabAt h [] := rfl
theorem tabAt_len (h : Hp) (M : List (List Bool)) : (tabAt h M).length = h.length + 1 + M.length := by
  simp [tabAt]; lia
theorem tabAt_head (h : Hp) (M : List (List Bool)) : (tabAt h M)[h.length]? = some ((List.range M.length).map fun i => V.ref (h.length + 1 + i)) := get_ref
theorem tabAt_row (h : Hp) (M : List (List Bool)) (i : Nat) : (tabAt h M)[h.length + 1 + i]? = (M[i]?).map fun row => row.map V.bool := by
  unfold tabAt
  rw [List.getElem?_append_right (by lia), show h.length + 1 + i - h.length = i + 1 by lia, List.getElem?_cons_succ, List.getElem?_map]
theorem set_mid (h : Hp) (xs ys : List V) (L : Hp) : (h ++ xs :: L).set h.length ys = h ++ ys :: L := by
  induction h with
  | nil => rfl
  | cons x h ih => exact congrArg (x :: ·) ih
theorem set_far (h : Hp) (xs ys : List V) (L : Hp) (i : Nat) : (h ++ xs :: L).set (h.length + 1 + i) ys = h ++ xs :: L.set i ys := by
  induction h with
  | nil => rw [show (List.length ([] : Hp) + 1 + i) = i + 1 by simp; lia]; rfl
  | cons x h ih =>
    have : (x :: h).length + 1 + i = (h.length + 1 + i) + 1 := by simp; lia
    rw [this]
    exact congrArg (x :: ·) ih
theorem tabAt_app (h : Hp) (M : List (List Bool)) (row : List Bool) (hM : M.length ≤ 1000000) : appendTo h.length (.ref (tabAt h M).length) (tabAt h M ++ [row.map V.bool]) = some (tabAt h (M ++ [row])) := by
  unfold appendTo
  rw [get_pre _ (tabAt_head h M)]
  simp only [Option.bind_some]
  rw [if_pos (by simp; lia), tabAt_len]
  unfold tabAt
  rw [List.append_assoc, List.cons_append, set_mid]
  simp [List.range_succ]
theorem loopL_app {h : Hp} {f : V → Hp → Option Hp} {v : V → V} {all : List V} : ∀ (js : List V) (xs : List V), (∀ y ∈ js, ∀ xs, xs.length ≤ 100000 → f y (h ++ [xs]) = some (h ++ [xs ++ [v y]])) → xs.length + js.length ≤ 100000 → loopL none all f js (h ++ [xs]) = some (h ++ [xs ++ js.map v])
  | [], xs, _, _ => by simp [loopL, chk_none]
  | y :: js, xs, hf, hl => by
    simp only [List.length_cons] at hl
    simp only [loopL, chk_none, if_true, hf y (List.mem_cons_self ..) xs (by lia), Option.bind_some]
    rw [loopL_app js (xs ++ [v y]) (fun z hz => hf z (List.mem_cons_of_mem _ hz)) (by simp; lia)]
    simp
theorem loopL_tab {h : Hp} {c : Option Nat} {f : V → Hp → Option Hp} {row : V → List Bool} {all : List V} (hc : ∀ M, chk c all (tabAt h M) = true) : ∀ (js : List V) (M : List (List Bool)), (∀ y ∈ js, ∀ M, M.length ≤ 100000 → f y (tabAt h M) = some (tabAt h (M ++ [row y]))) → M.length + js.length ≤ 100000 → loopL c all f js (tabAt h M) = some (tabAt h (M ++ js.map row))
  | [], M, _, _ => by simp [loopL, hc]
  | y :: js, M, hf, hl => by
    simp only [List.length_cons] at hl
    simp only [loopL, hc, if_true, hf y (List.mem_cons_self ..) M (by lia), Option.bind_some]
    rw [loopL_tab hc js (M ++ [row y]) (fun z hz => hf z (List.mem_cons_of_mem _ hz)) (by simp; lia)]
    simp

structure IsTab (h : Hp) (lo a : Nat) (M : List (List Bool)) : Prop where
  ge : lo ≤ a
  tab : ∃ rs : List Nat, h[a]? = some (rs.map V.ref) ∧ rs.length = M.length ∧ ∀ (i : Nat) (row : List Bool), M[i]? = some row → ∃ r, rs[i]? = some r ∧ lo ≤ r ∧ h[r]? = some (row.map V.bool)
theorem IsTab.app {h : Hp} {lo a : Nat} {M : List (List Bool)} (x : IsTab h lo a M) (L : Hp) : IsTab (h ++ L) lo a M :=
  ⟨x.ge, let ⟨rs, e1, e2, e3⟩ := x.tab; ⟨rs, get_pre _ e1, e2, fun i row hr => let ⟨r, q1, q2, q3⟩ := e3 i row hr; ⟨r, q1, q2, get_pre _ q3⟩⟩⟩
theorem IsTab.set {h : Hp} {lo a x : Nat} {M : List (List Bool)} (t : IsTab h lo a M) (hx : x < lo) (ys : List V) : IsTab (h.set x ys) lo a M :=
  ⟨t.ge, let ⟨rs, e1, e2, e3⟩ := t.tab; ⟨rs, by rw [List.getElem?_set_ne (by have := t.ge; lia)]; exact e1, e2, fun i row hr => let ⟨r, q1, q2, q3⟩ := e3 i row hr; ⟨r, q1, q2, by rw [List.getElem?_set_ne (by lia)]; exact q3⟩⟩⟩
theorem tabAt_is (h : Hp) (M : List (List Bool)) : IsTab (tabAt h M) h.length h.length M :=
  ⟨Nat.le_refl _, (List.range M.length).map (h.length + 1 + ·), by rw [tabAt_head]; simp [Function.comp_def], by simp, fun i row hr => by
    have hi := (List.getElem?_eq_some_iff.mp hr).1
    exact ⟨h.length + 1 + i, by simp [hi], by lia, by rw [tabAt_row, hr]; rfl⟩⟩
theorem IsTab.lower {h : Hp} {lo lo' a : Nat} {M : List (List Bool)} (x : IsTab h lo a M) (hl : lo' ≤ lo) : IsTab h lo' a M :=
  ⟨Nat.le_trans hl x.ge, let ⟨rs, e1, e2, e3⟩ := x.tab; ⟨rs, e1, e2, fun i row hr => let ⟨r, q1, q2, q3⟩ := e3 i row hr; ⟨r, q1, Nat.le_trans hl q2, q3⟩⟩⟩
noncomputable def bools (row : List Bool) : PyData := .list (row.map PyData.bool)
theorem rdAll_bools (n : Nat) (h : Hp) : ∀ row : List Bool, rdAll (rd n h) (row.map V.bool) = some (row.map PyData.bool)
  | [] => rfl
  | b :: row => by
    have : rd n h (.bool b) = some (.bool b) := by cases n <;> rfl
    simp only [List.map_cons, rdAll, this, Option.bind_some, rdAll_bools n h row, Option.map_some]
theorem rdAll_of {f : V → Option PyData} : ∀ {vs : List V} {ds : List PyData}, vs.length = ds.length → (∀ (i : Nat) (v : V) (d : PyData), vs[i]? = some v → ds[i]? = some d → f v = some d) → rdAll f vs = some ds
  | [], [], _, _ => rfl
  | [], _ :: _, h, _ => by simp at h
  | _ :: _, [], h, _ => by simp at h
  | v :: vs, d :: ds, hl, h => by
    have h1 := h 0 v d rfl rfl
    have h2 := rdAll_of (f := f) (vs := vs) (ds := ds) (by simpa using hl) fun i v d e1 e2 => h (i + 1) v d e1 e2
    simp only [rdAll, h1, h2, Option.bind_some, Option.map_some]
theorem IsTab.rd {h : Hp} {lo a : Nat} {M : List (List Bool)} (x : IsTab h lo a M) : rd 8 h (.ref a) = some (.list (M.map bools)) := by
  obtain ⟨rs, e1, e2, e3⟩ := x.tab
  have : rdAll (Mine.rd 7 h) (rs.map V.ref) = some (M.map bools) := by
    refine rdAll_of (by simp [e2]) fun i v d q1 q2 => ?_
    rw [List.getElem?_map] at q1 q2
    cases hm : M[i]? with
    | none => rw [hm] at q2; cases q2
    | some row =>
      obtain ⟨r, p1, _, p3⟩ := e3 i row hm
      rw [p1] at q1
      rw [hm] at q2
      cases q1
      cases q2
      show (h[r]?).bind (fun vs => (rdAll (Mine.rd 6 h) vs).map PyData.list) = _
      rw [p3, Option.bind_some, rdAll_bools]; rfl
  show (h[a]?).bind (fun vs => (rdAll (Mine.rd 7 h) vs).map PyData.list) = _
  rw [e1, Option.bind_some, this]; rfl
theorem IsTab.ne {h : Hp} {lo lo' a a' : Nat} {M : List (List Bool)} (x : IsTab h lo a M) (y : IsTab h lo' a' M) : cmpop .NotEq (.ref a) (.ref a') h = some false := by
  show (((Mine.rd 8 h (.ref a)).bind fun d => (Mine.rd 8 h (.ref a')).map fun e => PyData.eqv d e)).map _ = _
  rw [x.rd, y.rd]
  simp only [Option.bind_some, Option.map_some]
  rw [PySem.SeqAt.eqv_refl _ (rd_can (H := h) 8 _ _ x.rd).1]
  rfl
theorem IsTab.len {h : Hp} {lo a : Nat} {M : List (List Bool)} (x : IsTab h lo a M) : callB b_len [.ref a] h = some (.int M.length, h) := by
  obtain ⟨rs, e1, e2, e3⟩ := x.tab
  rw [len_ref _ e1]; simp [e2]
theorem IsTab.at {h : Hp} {lo a : Nat} {M : List (List Bool)} (x : IsTab h lo a M) {i : Nat} {row : List Bool} (hi : M[i]? = some row) : ∃ r, lo ≤ r ∧ idx (.ref a) (.int i) h = some (.ref r) ∧ h[r]? = some (row.map V.bool) := by
  obtain ⟨rs, e1, e2, e3⟩ := x.tab
  obtain ⟨r, q1, q2, q3⟩ := e3 i row hi
  exact ⟨r, q2, idx_ref e1 (by lia) (by simp [q1]), q3⟩

noncomputable def mat (n : Nat) (f : Nat → Nat → Bool) : List (List Bool) := (List.range n).map fun i => (List.range n).map fun j => f i j
theorem mat_len (n : Nat) (f : Nat → Nat → Bool) : (mat n f).length = n := by simp [mat]
theorem mat_row {n : Nat} (f : Nat → Nat → Bool) {i : Nat} (h : i < n) : (mat n f)[i]? = some ((List.range n).map fun j => f i j) := by simp [mat, h]
theorem mat_ext {n : Nat} {f g : Nat → Nat → Bool} (h : ∀ i, i < n → ∀ j, j < n → f i j = g i j) : mat n f = mat n g := by
  unfold mat
  apply List.map_congr_left
  intro i hi
  apply List.map_congr_left
  intro j hj
  exact h i (List.mem_range.mp hi) j (List.mem_range.mp hj)
theorem IsTab.cell {h : Hp} {lo a n : Nat} {f : Nat → Nat → Bool} (x : IsTab h lo a (mat n f)) {i j : Nat} (hi : i < n) (hj : j < n) : ∃ r, lo ≤ r ∧ idx (.ref a) (.int i) h = some (.ref r) ∧ idx (.ref r) (.int j) h = some (.bool (f i j)) := by
  obtain ⟨r, e1, e2, e3⟩ := x.at (mat_row f hi)
  exact ⟨r, e1, e2, idx_ref e3 (by lia) (by simp [hj])⟩
noncomputable def updM (f : Nat → Nat → Bool) (i j : Nat) (v : Bool) : Nat → Nat → Bool := fun i' j' => if i' = i ∧ j' = j then v else f i' j'
theorem tab_set {b : Nat} (h : Hp) {n : Nat} (f : Nat → Nat → Bool) {i j : Nat} (v : Bool) (hi : i < n) (hj : j < n) (hb : b ≤ h.length) :
    idx (.ref h.length) (.int i) (tabAt h (mat n f)) = some (.ref (h.length + 1 + i)) ∧ setIdx b (.ref (h.length + 1 + i)) (.int j) (.bool v) (tabAt h (mat n f)) = some (tabAt h (mat n (updM f i j v))) := by
  constructor
  · exact idx_ref (tabAt_head ..) (by lia) (by simp [mat_len, hi])
  · have hrow : (tabAt h (mat n f))[h.length + 1 + i]? = some (((List.range n).map fun j => f i j).map V.bool) := by rw [tabAt_row, mat_row f hi]; rfl
    simp only [setIdx, refInt, hrow, Option.bind_some]
    rw [seqIndex_nat (by simp [hj])]
    simp only [Option.bind_some]
    rw [if_pos (by lia)]
    unfold tabAt
    rw [set_far]
    congr 2
    rw [mat_len, mat_len]
    congr 1
    apply List.ext_getElem?
    intro i'
    rw [List.getElem?_map, List.getElem?_set]
    by_cases hin : i' < n
    · rw [mat_row _ hin]
      by_cases he : i = i'
      · subst he
        rw [if_pos rfl, if_pos (by simp [mat_len, hi])]
        simp only [Option.map_some]
        congr 1
        apply List.ext_getElem?
        intro j'
        rw [List.getElem?_set]
        by_cases hj' : j' < n
        · by_cases hje : j = j'
          · subst hje
            simp [hj, updM]
          · simp [hj', hje, updM, Ne.symm hje]
        · have : j ≠ j' := by lia
          simp [hj', this]
      · rw [if_neg he, List.getElem?_map, mat_row f hin]
        simp [updM, Ne.symm he]
    · have : i ≠ i' := by lia
      rw [if_neg this]
      simp [mat, hin]
end Mine
end

section
set_option autoImplicit false
namespace Mine
open PySem

/-! the machine's paths; the text is t, a place is a number up to its length -/
abbrev Edge := Str × Nat
abbrev Bf := Nat → Nat → Bool
noncomputable def sE : Str := ⟨#[]⟩
noncomputable def Est (t : List Nat) (E : List (List Edge)) (s i s' j : Nat) : Prop :=
  ∃ es l, E[s]? = some es ∧ (l, s') ∈ es ∧ ((l = sE ∧ j = i) ∨ ∃ c, t[i]? = some c ∧ (l = ⟨#[c]⟩ ∨ l = ⟨#[46]⟩) ∧ j = i + 1)
inductive Pth (t : List Nat) (E : List (List Edge)) : Nat → Nat → Nat → Nat → Prop
  | refl (s i) : Pth t E s i s i
  | step {s i s' i' u j} : Est t E s i s' i' → Pth t E s' i' u j → Pth t E s i u j
section
variable {t : List Nat} {E E' : List (List Edge)}
theorem Pth.trans {s i u j v k : Nat} (p : Pth t E s i u j) (q : Pth t E u j v k) : Pth t E s i v k := by
  induction p with
  | refl => exact q
  | step e _ ih => exact .step e (ih q)
theorem Pth.one {s i u j : Nat} (e : Est t E s i u j) : Pth t E s i u j := .step e (.refl ..)
theorem est_le {s i s' j : Nat} (e : Est t E s i s' j) : i ≤ j ∧ (i ≤ t.length → j ≤ t.length) := by
  obtain ⟨es, l, _, _, h | ⟨c, hc, _, h⟩⟩ := e
  · exact ⟨Nat.le_of_eq h.2.symm, fun q => h.2 ▸ q⟩
  · have := (List.getElem?_eq_some_iff.mp hc).1
    exact ⟨by lia, fun _ => by lia⟩
theorem Pth.le {s i u j : Nat} (p : Pth t E s i u j) : i ≤ j ∧ (i ≤ t.length → j ≤ t.length) := by
  induction p with
  | refl => exact ⟨Nat.le_refl _, id⟩
  | step e _ ih =>
    have := est_le e
    exact ⟨Nat.le_trans this.1 ih.1, fun q => ih.2 (this.2 q)⟩
/-- from behind: what holds at the goal and is handed back along each edge -/
theorem Pth.back {a : Nat} {Ok : Nat → Nat → Nat → Prop} (h0 : ∀ i, Ok a i i) (hs : ∀ x i x' i' j, Est t E x i x' i' → Ok x' i' j → Ok x i j) {x i j : Nat} (p : Pth t E x i a j) : Ok x i j := by
  generalize hu : a = u at p
  induction p with
  | refl => subst hu; exact h0 _
  | step e _ ih => exact hs _ _ _ _ _ e (ih hu)
theorem est_same {x i x' i' : Nat} (h : E'[x]? = E[x]?) : Est t E' x i x' i' ↔ Est t E x i x' i' := by
  unfold Est; rw [h]
theorem est_eps {x y i : Nat} {es : List Edge} (h : E[x]? = some es) (hm : (sE, y) ∈ es) : Est t E x i y i := ⟨es, sE, h, hm, .inl ⟨rfl, rfl⟩⟩
/-- a state whose edges are all empty ones -/
theorem est_all {x i x' i' : Nat} {ts : List Nat} (h : E[x]? = some (ts.map fun y => (sE, y))) (e : Est t E x i x' i') : x' ∈ ts ∧ i' = i := by
  obtain ⟨es, l, h1, h2, h3⟩ := e
  rw [h] at h1
  cases h1
  obtain ⟨y, hy, e2⟩ := List.mem_map.mp h2
  cases e2
  rcases h3 with h3 | ⟨c, _, h3, _⟩
  · exact ⟨hy, h3.2⟩
  · rcases h3 with h3 | h3 <;> cases h3

/-- a part of the machine: its states lo..hi-1, its start s, its end a, and what it reads -/
structure Frag (t : List Nat) (E : List (List Edge)) (lo hi s a : Nat) (f : Bf) : Prop where
  s1 : lo ≤ s
  s2 : s < hi
  a1 : lo ≤ a
  a2 : a < hi
  cl : ∀ u es, lo ≤ u → u < hi → E[u]? = some es → ∀ e ∈ es, lo ≤ e.2 ∧ e.2 < hi
  acc : E[a]? = some []
  ok : ∀ i j, i ≤ t.length → (Pth t E s i a j ↔ f i j = true)

theorem Frag.into {lo hi s a : Nat} {f : Bf} (F : Frag t E lo hi s a f) {x i x' i' : Nat} (h1 : lo ≤ x) (h2 : x < hi) (e : Est t E x i x' i') : lo ≤ x' ∧ x' < hi := by
  obtain ⟨es, l, q1, q2, _⟩ := e
  exact F.cl x es h1 h2 q1 _ q2
/-- the part's paths are paths of a machine that has its edges -/
theorem Frag.carry {lo hi s a : Nat} {f : Bf} (F : Frag t E lo hi s a f) (hE : ∀ u, lo ≤ u → u < hi → u ≠ a → E'[u]? = E[u]?) {x i j : Nat} (h1 : lo ≤ x) (h2 : x < hi) (p : Pth t E x i a j) : Pth t E' x i a j := by
  have key : (lo ≤ x ∧ x < hi) → Pth t E' x i a j := Pth.back (t := t) (E := E) (a := a) (Ok := fun x i j => (lo ≤ x ∧ x < hi) → Pth t E' x i a j) (fun i _ => .refl ..) (fun x i x' i' j e ih hx => by
    have hx' := F.into hx.1 hx.2 e
    by_cases q : x = a
    · subst q
      obtain ⟨es, l, q1, q2, _⟩ := e
      rw [F.acc] at q1
      cases q1
      cases q2
    · exact .step ((est_same (hE x hx.1 hx.2 q)).mpr e) (ih hx')) p
  exact key ⟨h1, h2⟩
theorem Frag.congr {lo hi s a : Nat} {f : Bf} (F : Frag t E lo hi s a f) (hE : ∀ u, lo ≤ u → u < hi → E'[u]? = E[u]?) : Frag t E' lo hi s a f := by
  have cl' : ∀ u es, lo ≤ u → u < hi → E'[u]? = some es → ∀ e ∈ es, lo ≤ e.2 ∧ e.2 < hi := fun u es h1 h2 h3 => F.cl u es h1 h2 (by rw [← hE u h1 h2]; exact h3)
  refine ⟨F.s1, F.s2, F.a1, F.a2, cl', by rw [hE a F.a1 F.a2]; exact F.acc, fun i j hi' => ?_⟩
  rw [← F.ok i j hi']
  constructor
  · intro p
    have key : (lo ≤ s ∧ s < hi) → Pth t E s i a j := Pth.back (t := t) (E := E') (a := a) (Ok := fun x i j => (lo ≤ x ∧ x < hi) → Pth t E x i a j) (fun i _ => .refl ..) (fun x i x' i' j e ih hx => by
      have e' := (est_same (hE x hx.1 hx.2)).mp e
      exact .step e' (ih (F.into hx.1 hx.2 e'))) p
    exact key ⟨F.s1, F.s2⟩
  · exact F.carry (fun u h1 h2 _ => hE u h1 h2) F.s1 F.s2

/-! the signs -/
theorem frag_sign {n : Nat} {l : Str} {f : Bf} (hS : E[n]? = some [(l, n + 1)]) (hA : E[n + 1]? = some [])
    (hf : ∀ i j, i ≤ t.length → (((l = sE ∧ j = i) ∨ ∃ c, t[i]? = some c ∧ (l = ⟨#[c]⟩ ∨ l = ⟨#[46]⟩) ∧ j = i + 1) ↔ f i j = true)) : Frag t E n (n + 2) n (n + 1) f := by
  refine ⟨Nat.le_refl _, by lia, by lia, by lia, fun u es h1 h2 h3 e he => ?_, hA, fun i j hi => ?_⟩
  · have : u = n ∨ u = n + 1 := by lia
    rcases this with rfl | rfl
    · rw [hS] at h3; cases h3; simp at he; subst he; simp
    · rw [hA] at h3; cases h3; cases he
  · rw [← hf i j hi]
    constructor
    · intro p
      cases p with
      | step e q =>
        obtain ⟨es, l', q1, q2, q3⟩ := e
        rw [hS] at q1
        cases q1
        simp at q2
        obtain ⟨rfl, rfl⟩ := q2
        cases q with
        | refl => exact q3
        | step e' _ =>
          obtain ⟨es, l'', r1, r2, _⟩ := e'
          rw [hA] at r1; cases r1; cases r2
    · intro h
      exact .one ⟨_, l, hS, by simp, h⟩

/-! two parts one behind the other -/
theorem frag_cat {lo mid hi s1 a1 s2 a2 : Nat} {f g h : Bf} (F : Frag t E lo mid s1 a1 f) (K : Frag t E mid hi s2 a2 g)
    (hE : ∀ u, lo ≤ u → u < hi → u ≠ a1 → E'[u]? = E[u]?) (ha : E'[a1]? = some [(sE, s2)])
    (hh : ∀ i j, i ≤ t.length → ((∃ k, f i k = true ∧ g k j = true) ↔ h i j = true)) : Frag t E' lo hi s1 a2 h := by
  have b1 := F.s1; have b2 := F.s2; have b3 := F.a1; have b4 := F.a2
  have c1 := K.s1; have c2 := K.s2; have c3 := K.a1; have c4 := K.a2
  have ha' : E'[a1]? = some ([s2].map fun y => (sE, y)) := ha
  refine ⟨b1, by lia, by lia, c4, fun u es h1 h2 h3 e he => ?_, by rw [hE a2 (by lia) c4 (by lia)]; exact K.acc, fun i j hi' => ?_⟩
  · by_cases q : u = a1
    · subst q; rw [ha] at h3; cases h3; simp at he; subst he; simp; lia
    · rw [hE u h1 h2 q] at h3
      by_cases q2 : u < mid
      · have := F.cl u es h1 q2 h3 e he; lia
      · have := K.cl u es (by lia) h2 h3 e he; lia
  · rw [← hh i j hi']
    constructor
    · intro p
      have key := Pth.back (t := t) (E := E') (a := a2) (Ok := fun x i j => (lo ≤ x ∧ x < mid → ∃ k, Pth t E x i a1 k ∧ Pth t E s2 k a2 j) ∧ (mid ≤ x ∧ x < hi → Pth t E x i a2 j))
        (fun i => ⟨fun hx => by lia, fun _ => .refl ..⟩) (fun x i x' i' j e ih => by
          refine ⟨fun hx => ?_, fun hx => ?_⟩
          · by_cases q : x = a1
            · subst q
              obtain ⟨m, rfl⟩ := est_all ha' e
              simp at m
              subst m
              exact ⟨i', .refl .., ih.2 ⟨c1, c2⟩⟩
            · have e' := (est_same (hE x hx.1 (by lia) q)).mp e
              obtain ⟨k, p1, p2⟩ := ih.1 (F.into hx.1 hx.2 e')
              exact ⟨k, .step e' p1, p2⟩
          · have e' := (est_same (hE x (by lia) hx.2 (by lia))).mp e
            exact .step e' (ih.2 (K.into hx.1 hx.2 e'))) p
      obtain ⟨k, p1, p2⟩ := key.1 ⟨b1, b2⟩
      exact ⟨k, (F.ok i k hi').mp p1, (K.ok k j (p1.le.2 hi')).mp p2⟩
    · rintro ⟨k, hf, hg⟩
      have p1 := (F.ok i k hi').mpr hf
      have hk := p1.le.2 hi'
      have p2 := (K.ok k j hk).mpr hg
      have p1' : Pth t E' s1 i a1 k := F.carry (fun u h1 h2 q => hE u h1 (by lia) q) b1 b2 p1
      have p2' : Pth t E' s2 k a2 j := K.carry (fun u h1 h2 _ => hE u (by lia) h2 (by lia)) c1 c2 p2
      exact p1'.trans (.step (est_eps ha (by simp)) p2')

/-! one part or the other -/
theorem frag_alt {lo mid hi s1 a1 s2 a2 : Nat} {f g h : Bf} (F : Frag t E lo mid s1 a1 f) (K : Frag t E mid hi s2 a2 g)
    (hE : ∀ u, lo ≤ u → u < hi → u ≠ a1 → u ≠ a2 → E'[u]? = E[u]?) (ha : E'[a1]? = some [(sE, hi + 1)]) (hb : E'[a2]? = some [(sE, hi + 1)])
    (hS : E'[hi]? = some [(sE, s1), (sE, s2)]) (hA : E'[hi + 1]? = some [])
    (hh : ∀ i j, i ≤ t.length → ((f i j = true ∨ g i j = true) ↔ h i j = true)) : Frag t E' lo (hi + 2) hi (hi + 1) h := by
  have b1 := F.s1; have b2 := F.s2; have b3 := F.a1; have b4 := F.a2
  have c1 := K.s1; have c2 := K.s2; have c3 := K.a1; have c4 := K.a2
  have ha' : E'[a1]? = some ([hi + 1].map fun y => (sE, y)) := ha
  have hb' : E'[a2]? = some ([hi + 1].map fun y => (sE, y)) := hb
  have hS' : E'[hi]? = some ([s1, s2].map fun y => (sE, y)) := hS
  refine ⟨by lia, by lia, by lia, by lia, fun u es h1 h2 h3 e he => ?_, hA, fun i j hi' => ?_⟩
  · by_cases q0 : u = hi + 1
    · subst q0; rw [hA] at h3; cases h3; cases he
    by_cases q0 : u = hi
    · subst q0; rw [hS] at h3; cases h3; simp at he; rcases he with rfl | rfl <;> simp <;> lia
    by_cases q : u = a1
    · subst q; rw [ha] at h3; cases h3; simp at he; subst he; simp; lia
    by_cases q' : u = a2
    · subst q'; rw [hb] at h3; cases h3; simp at he; subst he; simp; lia
    rw [hE u h1 (by lia) q q'] at h3
    by_cases q2 : u < mid
    · have := F.cl u es h1 q2 h3 e he; lia
    · have := K.cl u es (by lia) (by lia) h3 e he; lia
  · rw [← hh i j hi']
    constructor
    · intro p
      have key := Pth.back (t := t) (E := E') (a := hi + 1) (Ok := fun x i j => (lo ≤ x ∧ x < mid → Pth t E x i a1 j) ∧ (mid ≤ x ∧ x < hi → Pth t E x i a2 j) ∧ (x = hi → Pth t E s1 i a1 j ∨ Pth t E s2 i a2 j) ∧ (x = hi + 1 → i = j))
        (fun i => ⟨fun hx => by lia, fun hx => by lia, fun hx => by lia, fun _ => rfl⟩) (fun x i x' i' j e ih => by
          obtain ⟨i1, i2, i3, i4⟩ := ih
          refine ⟨fun hx => ?_, fun hx => ?_, fun hx => ?_, fun hx => ?_⟩
          · by_cases q : x = a1
            · subst q
              obtain ⟨m, rfl⟩ := est_all ha' e
              simp at m
              have := i4 m; subst this
              exact .refl ..
            · have e' := (est_same (hE x hx.1 (by lia) q (by lia))).mp e
              exact .step e' (i1 (F.into hx.1 hx.2 e'))
          · by_cases q : x = a2
            · subst q
              obtain ⟨m, rfl⟩ := est_all hb' e
              simp at m
              have := i4 m; subst this
              exact .refl ..
            · have e' := (est_same (hE x (by lia) hx.2 (by lia) q)).mp e
              exact .step e' (i2 (K.into hx.1 hx.2 e'))
          · subst hx
            obtain ⟨m, rfl⟩ := est_all hS' e
            simp at m
            rcases m with rfl | rfl
            · exact .inl (i1 ⟨b1, b2⟩)
            · exact .inr (i2 ⟨c1, c2⟩)
          · subst hx
            obtain ⟨es, l, r1, r2, _⟩ := e
            rw [hA] at r1; cases r1; cases r2) p
      rcases key.2.2.1 rfl with q | q
      · exact .inl ((F.ok i j hi').mp q)
      · exact .inr ((K.ok i j hi').mp q)
    · rintro (q | q)
      · have p1 : Pth t E' s1 i a1 j := F.carry (fun u h1 h2 q => hE u h1 (by lia) q (by lia)) b1 b2 ((F.ok i j hi').mpr q)
        exact .step (est_eps hS (by simp)) (p1.trans (.one (est_eps ha (by simp))))
      · have p1 : Pth t E' s2 i a2 j := K.carry (fun u h1 h2 q => hE u (by lia) h2 (by lia) q) c1 c2 ((K.ok i j hi').mpr q)
        exact .step (est_eps hS (by simp)) (p1.trans (.one (est_eps hb (by simp))))

/-! a part any number of times; p: at least once; o: at most once -/
inductive StarR (R : Nat → Nat → Prop) : Nat → Nat → Prop
  | refl (i) : StarR R i i
  | step {i k j} : R i k → StarR R k j → StarR R i j
theorem frag_loop {lo hi s1 a1 : Nat} {p o : Bool} {f h : Bf} (F : Frag t E lo hi s1 a1 f)
    (hE : ∀ u, lo ≤ u → u < hi → u ≠ a1 → E'[u]? = E[u]?) (ha : E'[a1]? = some ((if o then [] else [(sE, s1)]) ++ [(sE, hi + 1)]))
    (hS : E'[hi]? = some ((sE, s1) :: (if p then [] else [(sE, hi + 1)]))) (hA : E'[hi + 1]? = some [])
    (hh : ∀ i j, i ≤ t.length → (((∃ k, f i k = true ∧ (k = j ∨ (o = false ∧ StarR (fun x y => f x y = true) k j))) ∨ (p = false ∧ i = j)) ↔ h i j = true)) : Frag t E' lo (hi + 2) hi (hi + 1) h := by
  have b1 := F.s1; have b2 := F.s2; have b3 := F.a1; have b4 := F.a2
  have ha' : E'[a1]? = some (((if o then [] else [s1]) ++ [hi + 1]).map fun y => (sE, y)) := by rw [ha]; cases o <;> rfl
  have hS' : E'[hi]? = some ((s1 :: (if p then [] else [hi + 1])).map fun y => (sE, y)) := by rw [hS]; cases p <;> rfl
  have ends : ∀ {i j : Nat}, i ≤ t.length → Pth t E s1 i a1 j → f i j = true := fun hi' q => (F.ok _ _ hi').mp q
  refine ⟨by lia, by lia, by lia, by lia, fun u es h1 h2 h3 e he => ?_, hA, fun i j hi' => ?_⟩
  · by_cases q0 : u = hi + 1
    · subst q0; rw [hA] at h3; cases h3; cases he
    by_cases q0 : u = hi
    · subst q0; rw [hS'] at h3; cases h3
      obtain ⟨y, hy, rfl⟩ := List.mem_map.mp he
      cases p <;> simp at hy <;> simp <;> lia
    by_cases q : u = a1
    · subst q; rw [ha'] at h3; cases h3
      obtain ⟨y, hy, rfl⟩ := List.mem_map.mp he
      cases o <;> simp at hy <;> simp <;> lia
    rw [hE u h1 (by lia) q] at h3
    have := F.cl u es h1 (by lia) h3 e he; lia
  · rw [← hh i j hi']
    constructor
    · intro pp
      have key := Pth.back (t := t) (E := E') (a := hi + 1) (Ok := fun x i j => i ≤ t.length → (lo ≤ x ∧ x < hi → ∃ k, Pth t E x i a1 k ∧ (k = j ∨ (o = false ∧ StarR (fun x y => f x y = true) k j))) ∧ (x = hi → (∃ k, f i k = true ∧ (k = j ∨ (o = false ∧ StarR (fun x y => f x y = true) k j))) ∨ (p = false ∧ i = j)) ∧ (x = hi + 1 → i = j))
        (fun i _ => ⟨fun hx => by lia, fun hx => by lia, fun _ => rfl⟩) (fun x i x' i' j e ih hil => by
          obtain ⟨i1, i3, i4⟩ := ih ((est_le e).2 hil)
          refine ⟨fun hx => ?_, fun hx => ?_, fun hx => ?_⟩
          · by_cases q : x = a1
            · subst q
              obtain ⟨m, rfl⟩ := est_all ha' e
              refine ⟨i', .refl .., ?_⟩
              rcases List.mem_append.mp m with m | m
              · cases o with
                | true => cases m
                | false =>
                  simp at m
                  subst m
                  obtain ⟨k, p1, p2⟩ := i1 ⟨b1, b2⟩
                  refine .inr ⟨rfl, .step (ends hil p1) ?_⟩
                  rcases p2 with rfl | ⟨_, p2⟩
                  · exact .refl _
                  · exact p2
              · simp at m
                exact .inl (i4 m)
            · have e' := (est_same (hE x hx.1 hx.2 q)).mp e
              obtain ⟨k, p1, p2⟩ := i1 (F.into hx.1 hx.2 e')
              exact ⟨k, .step e' p1, p2⟩
          · subst hx
            obtain ⟨m, rfl⟩ := est_all hS' e
            rcases List.mem_cons.mp m with rfl | m
            · obtain ⟨k, p1, p2⟩ := i1 ⟨b1, b2⟩
              exact .inl ⟨k, ends hil p1, p2⟩
            · cases p with
              | true => cases m
              | false => simp at m; exact .inr ⟨rfl, i4 m⟩
          · subst hx
            obtain ⟨es, l, r1, r2, _⟩ := e
            rw [hA] at r1; cases r1; cases r2) pp
      exact (key hi').2.1 rfl
    · have car : ∀ {i j : Nat}, i ≤ t.length → f i j = true → Pth t E' s1 i a1 j := fun hi' q => F.carry hE b1 b2 ((F.ok _ _ hi').mpr q)
      have out : ∀ {k : Nat}, Est t E' a1 k (hi + 1) k := fun {k} => est_eps ha (by simp)
      have star : ∀ {k j : Nat}, o = false → StarR (fun x y => f x y = true) k j → k ≤ t.length → Pth t E' a1 k (hi + 1) j := by
        intro k j ho q
        induction q with
        | refl => intro _; exact .one out
        | step h1 _ ih =>
          intro hk
          have p1 := car hk h1
          exact .step (est_eps ha (by simp [ho])) (p1.trans (ih (p1.le.2 hk)))
      rintro (⟨k, hf, hk⟩ | ⟨hp, rfl⟩)
      · have p1 := car hi' hf
        refine .step (est_eps hS (by simp)) (p1.trans ?_)
        rcases hk with rfl | ⟨ho, q⟩
        · exact .one out
        · exact star ho q (p1.le.2 hi')
      · exact .one (est_eps hS (by simp [hp]))
end
end Mine
end

section
set_option autoImplicit false
namespace Mine
open PySem

noncomputable def mcat (n : Nat) (A B : Nat → Nat → Bool) : Nat → Nat → Bool := fun i j => (List.range n).any fun k => A i k && B k j
noncomputable def malt (A B : Bf) : Bf := fun i j => A i j || B i j
noncomputable def meps (N : Nat) : Bf := fun i j => decide (i = j ∧ j < N)
noncomputable def mit (N : Nat) (f : Bf) : Nat → Bf
  | 0 => meps N
  | m + 1 => malt (mit N f m) (mcat N (mit N f m) f)
noncomputable def mstar (N : Nat) (f : Bf) : Bf := mit N f N
/-- only forward, and within the text -/
noncomputable def Rd (N : Nat) (f : Bf) : Prop := ∀ i j, f i j = true → i ≤ j ∧ j < N
theorem mcat_iff {N : Nat} {f g : Bf} {i j : Nat} : mcat N f g i j = true ↔ ∃ k, k < N ∧ f i k = true ∧ g k j = true := by
  unfold mcat
  simp only [List.any_eq_true, List.mem_range, Bool.and_eq_true]
theorem malt_iff {f g : Bf} {i j : Nat} : malt f g i j = true ↔ f i j = true ∨ g i j = true := by
  unfold malt; simp
theorem meps_iff {N i j : Nat} : meps N i j = true ↔ i = j ∧ j < N := by unfold meps; simp
theorem Rd.eps (N : Nat) : Rd N (meps N) := fun i j h => by have := meps_iff.mp h; lia
theorem Rd.alt {N : Nat} {f g : Bf} (hf : Rd N f) (hg : Rd N g) : Rd N (malt f g) := fun i j h => (malt_iff.mp h).elim (hf i j) (hg i j)
theorem Rd.cat {N : Nat} {f g : Bf} (hf : Rd N f) (hg : Rd N g) : Rd N (mcat N f g) := fun i j h => by
  obtain ⟨k, _, h1, h2⟩ := mcat_iff.mp h
  have := hf i k h1; have := hg k j h2; lia
theorem Rd.it {N : Nat} {f : Bf} (hf : Rd N f) : ∀ m, Rd N (mit N f m)
  | 0 => Rd.eps N
  | m + 1 => (Rd.it hf m).alt ((Rd.it hf m).cat hf)
theorem mcat_ex {N : Nat} {f g : Bf} (hf : Rd N f) {i j : Nat} : (∃ k, f i k = true ∧ g k j = true) ↔ mcat N f g i j = true := by
  rw [mcat_iff]
  exact ⟨fun ⟨k, h1, h2⟩ => ⟨k, (hf i k h1).2, h1, h2⟩, fun ⟨k, _, h1, h2⟩ => ⟨k, h1, h2⟩⟩

section
variable {N : Nat} {f : Bf}
abbrev St (f : Bf) : Nat → Nat → Prop := StarR fun x y => f x y = true
theorem StarR.snoc {R : Nat → Nat → Prop} {i k j : Nat} (p : StarR R i k) (e : R k j) : StarR R i j := by
  induction p with
  | refl => exact .step e (.refl _)
  | step h _ ih => exact .step h (ih e)
theorem it_sound : ∀ (m : Nat) {i j : Nat}, mit N f m i j = true → St f i j
  | 0, i, j, h => by obtain ⟨rfl, _⟩ := meps_iff.mp h; exact .refl _
  | m + 1, i, j, h => by
    rcases malt_iff.mp h with h | h
    · exact it_sound m h
    · obtain ⟨k, _, h1, h2⟩ := mcat_iff.mp h
      exact (it_sound m h1).snoc h2
theorem it_mono {i j m m' : Nat} (hm : m ≤ m') (h : mit N f m i j = true) : mit N f m' i j = true := by
  induction hm with
  | refl => exact h
  | step _ ih => exact malt_iff.mpr (.inl ih)
theorem St.le (hf : Rd N f) {i j : Nat} (p : St f i j) (hi : i < N) : i ≤ j ∧ j < N := by
  induction p with
  | refl => lia
  | step h _ ih => have := hf _ _ h; have := ih this.2; lia
theorem it_grow (hf : Rd N f) {i j : Nat} (p : St f i j) : ∀ {m i0 : Nat}, i < N → mit N f m i0 i = true → mit N f (m + (j - i)) i0 j = true := by
  induction p with
  | refl => intro m i0 _ h; simpa using h
  | @step i k j h q ih =>
    intro m i0 hi h0
    have hk := hf _ _ h
    have hj := St.le hf q hk.2
    by_cases e : k = i
    · subst e; exact ih hi h0
    · have h1 : mit N f (m + 1) i0 k = true := malt_iff.mpr (.inr (mcat_iff.mpr ⟨i, hi, h0, h⟩))
      exact it_mono (by lia) (ih hk.2 h1)
theorem it_star (hf : Rd N f) {m i j : Nat} (hm : N ≤ m + 1) (hi : i < N) : mit N f m i j = true ↔ St f i j := by
  constructor
  · exact it_sound m
  · intro p
    have := it_grow hf p (m := 0) hi (meps_iff.mpr ⟨rfl, hi⟩)
    have hl := St.le hf p hi
    exact it_mono (by lia) this
theorem star_iff (hf : Rd N f) {i j : Nat} (hi : i < N) : mstar N f i j = true ↔ St f i j := it_star hf (by lia) hi
end

/-! the stack of meanings, the top ahead -/
noncomputable def mchr (t : List Nat) (s : Str) : Bf := fun i j => decide (j = i + 1) && (match t[i]? with | some c => (⟨#[c]⟩ : Str) == s | none => false)
noncomputable def mdot (t : List Nat) : Bf := fun i j => decide (j = i + 1) && (t[i]?).isSome
noncomputable def smStep (t : List Nat) : K8 → List Bf → Option (List Bf)
  | .chr s, st => some (mchr t s :: st)
  | .any, st => some (mdot t :: st)
  | .eps, st => some (meps (t.length + 1) :: st)
  | .star, f :: st => some (mstar (t.length + 1) f :: st)
  | .plus, f :: st => some (mcat (t.length + 1) f (mstar (t.length + 1) f) :: st)
  | .opt, f :: st => some (malt f (meps (t.length + 1)) :: st)
  | .cat, g :: f :: st => some (mcat (t.length + 1) f g :: st)
  | .alt, g :: f :: st => some (malt f g :: st)
  | _, _ => none
noncomputable def sms (t : List Nat) : List K8 → List Bf → Option (List Bf)
  | [], st => some st
  | k :: ks, st => (smStep t k st).bind (sms t ks)
theorem mchr_iff {t : List Nat} {s : Str} {i j : Nat} : mchr t s i j = true ↔ j = i + 1 ∧ ∃ c, t[i]? = some c ∧ s = ⟨#[c]⟩ := by
  unfold mchr
  cases h : t[i]? with
  | none => simp
  | some c =>
    simp only [Bool.and_eq_true, decide_eq_true_eq, beq_iff_eq, Option.some.injEq]
    constructor
    · rintro ⟨a, b⟩; exact ⟨a, c, rfl, b.symm⟩
    · rintro ⟨a, c', rfl, b⟩; exact ⟨a, b.symm⟩
theorem mdot_iff {t : List Nat} {i j : Nat} : mdot t i j = true ↔ j = i + 1 ∧ ∃ c, t[i]? = some c := by
  unfold mdot
  cases h : t[i]? <;> simp
theorem Rd.chr (t : List Nat) (s : Str) : Rd (t.length + 1) (mchr t s) := fun i j h => by
  obtain ⟨rfl, c, hc, _⟩ := mchr_iff.mp h
  have := (List.getElem?_eq_some_iff.mp hc).1
  lia
theorem Rd.dot (t : List Nat) : Rd (t.length + 1) (mdot t) := fun i j h => by
  obtain ⟨rfl, c, hc⟩ := mdot_iff.mp h
  have := (List.getElem?_eq_some_iff.mp hc).1
  lia
noncomputable def AllRd (N : Nat) (st : List Bf) : Prop := ∀ f ∈ st, Rd N f
theorem sm_rd {t : List Nat} {k : K8} {st st' : List Bf} (h : smStep t k st = some st') (hs : AllRd (t.length + 1) st) : AllRd (t.length + 1) st' := by
  have tl : ∀ {f : Bf} {st : List Bf}, AllRd (t.length + 1) (f :: st) → Rd (t.length + 1) f ∧ AllRd (t.length + 1) st := fun h => ⟨h _ (List.mem_cons_self ..), fun g hg => h g (List.mem_cons_of_mem _ hg)⟩
  have cons : ∀ {f : Bf} {st : List Bf}, Rd (t.length + 1) f → AllRd (t.length + 1) st → AllRd (t.length + 1) (f :: st) := fun h1 h2 g hg => by
    rcases List.mem_cons.mp hg with rfl | q
    · exact h1
    · exact h2 g q
  unfold smStep at h
  split at h <;> cases h
  · exact cons (Rd.chr t _) hs
  · exact cons (Rd.dot t) hs
  · exact cons (Rd.eps _) hs
  · exact cons (Rd.it (tl hs).1 _) (tl hs).2
  · exact cons ((tl hs).1.cat (Rd.it (tl hs).1 _)) (tl hs).2
  · exact cons ((tl hs).1.alt (Rd.eps _)) (tl hs).2
  · exact cons ((tl (tl hs).2).1.cat (tl hs).1) (tl (tl hs).2).2
  · exact cons ((tl (tl hs).2).1.alt (tl hs).1) (tl (tl hs).2).2
end Mine
end

section
set_option autoImplicit false
namespace Mine
open PySem

noncomputable def addE (E : List (List Edge)) (u : Nat) (e : Edge) : List (List Edge) := E.set u ((E[u]?).getD [] ++ [e])
theorem addE_len (E : List (List Edge)) (u : Nat) (e : Edge) : (addE E u e).length = E.length := by simp [addE]
theorem addE_self {E : List (List Edge)} {u : Nat} {es : List Edge} (e : Edge) (h : E[u]? = some es) : (addE E u e)[u]? = some (es ++ [e]) := by
  have := (List.getElem?_eq_some_iff.mp h).1
  unfold addE
  rw [h, List.getElem?_set_self this]
  rfl
theorem addE_ne {E : List (List Edge)} {u v : Nat} (e : Edge) (h : v ≠ u) : (addE E u e)[v]? = E[v]? := by
  simp [addE, List.getElem?_set_ne (Ne.symm h)]
noncomputable def sDot : Str := ⟨#[46]⟩
abbrev TS := List (List Edge) × List (Nat × Nat)
noncomputable def two (E : List (List Edge)) : List (List Edge) := E ++ [[]] ++ [[]]
theorem two_len (E : List (List Edge)) : (two E).length = E.length + 2 := by simp [two]
theorem two_old {E : List (List Edge)} {v : Nat} (h : v < E.length) : (two E)[v]? = E[v]? := by
  unfold two
  rw [List.getElem?_append_left (by simp; lia), List.getElem?_append_left h]
theorem two_s (E : List (List Edge)) : (two E)[E.length]? = some [] := by simp [two]
theorem two_a (E : List (List Edge)) : (two E)[E.length + 1]? = some [] := by
  unfold two
  rw [List.getElem?_append_right (by simp)]
  simp
noncomputable def leaf (E : List (List Edge)) (st : List (Nat × Nat)) (l : Str) : TS := (addE (two E) E.length (l, E.length + 1), (E.length, E.length + 1) :: st)
noncomputable def wrap (p o : Bool) (E : List (List Edge)) (x : Nat × Nat) : List (List Edge) :=
  let E1 := addE (two E) E.length (sE, x.1)
  let E2 := if p then E1 else addE E1 E.length (sE, E.length + 1)
  let E3 := if o then E2 else addE E2 x.2 (sE, x.1)
  addE E3 x.2 (sE, E.length + 1)
noncomputable def thStep : K8 → TS → Option TS
  | .cat, (E, r :: l :: st) => some (addE E l.2 (sE, r.1), (l.1, r.2) :: st)
  | .chr s, (E, st) => some (leaf E st s)
  | .any, (E, st) => some (leaf E st sDot)
  | .eps, (E, st) => some (leaf E st sE)
  | .alt, (E, r :: l :: st) => some (addE (addE (addE (addE (two E) E.length (sE, l.1)) E.length (sE, r.1)) l.2 (sE, E.length + 1)) r.2 (sE, E.length + 1), (E.length, E.length + 1) :: st)
  | .star, (E, x :: st) => some (wrap false false E x, (E.length, E.length + 1) :: st)
  | .plus, (E, x :: st) => some (wrap true false E x, (E.length, E.length + 1) :: st)
  | .opt, (E, x :: st) => some (wrap false true E x, (E.length, E.length + 1) :: st)
  | _, _ => none

/-- the stack's parts lie one behind the other, the top at the end -/
inductive Stk (t : List Nat) (E : List (List Edge)) : Nat → List (Nat × Nat) → List Bf → Prop
  | nil : Stk t E 0 [] []
  | cons {lo hi s a f st fs} : Frag t E lo hi s a f → Stk t E lo st fs → Stk t E hi ((s, a) :: st) (f :: fs)
theorem Stk.congr {t : List Nat} {E E' : List (List Edge)} {hi : Nat} {st : List (Nat × Nat)} {fs : List Bf} (x : Stk t E hi st fs) (h : ∀ u, u < hi → E'[u]? = E[u]?) : Stk t E' hi st fs := by
  induction x with
  | nil => exact .nil
  | cons F _ ih =>
    have := F.s1; have := F.s2
    exact .cons (F.congr fun u _ h2 => h u h2) (ih fun u hu => h u (by lia))
theorem Stk.inv {t : List Nat} {E : List (List Edge)} {hi : Nat} {p : Nat × Nat} {st : List (Nat × Nat)} {fs : List Bf} (x : Stk t E hi (p :: st) fs) : ∃ lo f fs', fs = f :: fs' ∧ Frag t E lo hi p.1 p.2 f ∧ Stk t E lo st fs' := by
  cases x with
  | cons F S => exact ⟨_, _, _, rfl, F, S⟩
/-- all that the stack names is there -/
theorem Stk.lt {t : List Nat} {E : List (List Edge)} {hi : Nat} {st : List (Nat × Nat)} {fs : List Bf} (x : Stk t E hi st fs) : ∀ p ∈ st, p.1 < hi ∧ p.2 < hi := by
  induction x with
  | nil => intro p hp; cases hp
  | cons F _ ih =>
    intro p hp
    have h1 := F.s1; have h2 := F.s2; have h3 := F.a2
    rcases List.mem_cons.mp hp with rfl | q
    · exact ⟨h2, h3⟩
    · have := ih p q; lia

noncomputable def K8.ok : K8 → Prop
  | .chr s => ∃ c, s = ⟨#[c]⟩ ∧ c ≠ 46
  | _ => True
section
variable {t : List Nat} {E : List (List Edge)} {st : List (Nat × Nat)} {fs : List Bf}
theorem leaf_inv {l : Str} {f : Bf} (hf : ∀ i j, i ≤ t.length → (((l = sE ∧ j = i) ∨ ∃ c, t[i]? = some c ∧ (l = ⟨#[c]⟩ ∨ l = ⟨#[46]⟩) ∧ j = i + 1) ↔ f i j = true)) (S : Stk t E E.length st fs) :
    Stk t (leaf E st l).1 (leaf E st l).1.length (leaf E st l).2 (f :: fs) := by
  unfold leaf
  simp only [addE_len, two_len]
  refine .cons (frag_sign (addE_self _ (two_s E)) (by rw [addE_ne _ (by lia)]; exact two_a E) hf) (S.congr fun u hu => ?_)
  rw [addE_ne _ (by lia), two_old hu]
theorem wrap_len (p o : Bool) (x : Nat × Nat) : (wrap p o E x).length = E.length + 2 := by
  unfold wrap
  cases p <;> cases o <;> simp only [addE_len, two_len, if_true, if_false, Bool.false_eq_true]
theorem wrap_inv {p o : Bool} {x : Nat × Nat} {lo : Nat} {f h : Bf} (F : Frag t E lo E.length x.1 x.2 f) (S : Stk t E lo st fs)
    (hh : ∀ i j, i ≤ t.length → (((∃ k, f i k = true ∧ (k = j ∨ (o = false ∧ St f k j))) ∨ (p = false ∧ i = j)) ↔ h i j = true)) :
    Stk t (wrap p o E x) (wrap p o E x).length ((E.length, E.length + 1) :: st) (h :: fs) := by
  have a1 := F.a1; have a2 := F.a2; have s1 := F.s1; have s2 := F.s2
  have hne : x.2 ≠ E.length := by lia
  have e0 : (two E)[x.2]? = some [] := by rw [two_old a2]; exact F.acc
  have old : ∀ u, u < E.length → u ≠ x.2 → (wrap p o E x)[u]? = E[u]? := fun u hu hx => by
    unfold wrap
    cases p <;> cases o <;> simp only [if_true, if_false, Bool.false_eq_true] <;> simp only [addE_ne _ hx, addE_ne _ (show u ≠ E.length by lia), two_old hu]
  rw [wrap_len]
  refine .cons (frag_loop F (fun u h1 h2 h3 => old u h2 h3) ?_ ?_ ?_ hh) (S.congr fun u hu => old u (by lia) (by lia))
  · unfold wrap
    have e1 : ∀ e, (addE (two E) E.length e)[x.2]? = some [] := fun e => by rw [addE_ne _ hne]; exact e0
    have e2 : ∀ e e', (addE (addE (two E) E.length e) E.length e')[x.2]? = some [] := fun e e' => by rw [addE_ne _ hne]; exact e1 e
    cases p <;> cases o <;> simp only [if_true, if_false, Bool.false_eq_true]
    · exact addE_self _ (addE_self _ (e2 ..))
    · exact addE_self _ (e2 ..)
    · exact addE_self _ (addE_self _ (e1 _))
    · exact addE_self _ (e1 _)
  · unfold wrap
    have e1 : ∀ e, (addE (two E) E.length e)[E.length]? = some [e] := fun e => addE_self _ (two_s E)
    cases p <;> cases o <;> simp only [if_true, if_false, Bool.false_eq_true] <;> simp only [addE_ne _ (Ne.symm hne)]
    · exact addE_self _ (e1 _)
    · exact addE_self _ (e1 _)
    · exact e1 _
    · exact e1 _
  · unfold wrap
    cases p <;> cases o <;> simp only [if_true, if_false, Bool.false_eq_true] <;> simp only [addE_ne _ (show E.length + 1 ≠ x.2 by lia), addE_ne _ (show E.length + 1 ≠ E.length by lia), two_a]
theorem th_inv {k : K8} {T' : TS} {fs' : List Bf} (hk : k.ok) (S : Stk t E E.length st fs) (rd : AllRd (t.length + 1) fs) (h1 : thStep k (E, st) = some T') (h2 : smStep t k fs = some fs') : Stk t T'.1 T'.1.length T'.2 fs' := by
  have lt : ∀ {i : Nat}, i ≤ t.length → i < t.length + 1 := fun h => Nat.lt_succ_of_le h
  cases k with
  | chr s =>
    obtain ⟨c, rfl, hc⟩ := hk
    cases h1; cases h2
    refine leaf_inv (fun i j hi => ?_) S
    rw [mchr_iff]
    constructor
    · rintro (⟨h, _⟩ | ⟨c', h1, h2, h3⟩)
      · cases h
      · rcases h2 with h2 | h2
        · exact ⟨h3, c', h1, h2⟩
        · injection h2 with h2
          have := congrArg (fun a : Array Nat => a[0]?) h2
          simp at this
          exact absurd this hc
    · rintro ⟨h3, c', h1, h2⟩
      exact .inr ⟨c', h1, .inl h2, h3⟩
  | any =>
    cases h1; cases h2
    refine leaf_inv (fun i j hi => ?_) S
    rw [mdot_iff]
    constructor
    · rintro (⟨h, _⟩ | ⟨c', h1, h2, h3⟩)
      · cases h
      · exact ⟨h3, c', h1⟩
    · rintro ⟨h3, c', h1⟩
      exact .inr ⟨c', h1, .inr rfl, h3⟩
  | eps =>
    cases h1; cases h2
    refine leaf_inv (fun i j hi => ?_) S
    rw [meps_iff]
    constructor
    · rintro (⟨_, h⟩ | ⟨c', h1, h2, h3⟩)
      · subst h; exact ⟨rfl, lt hi⟩
      · rcases h2 with h2 | h2 <;> cases h2
    · rintro ⟨rfl, _⟩
      exact .inl ⟨rfl, rfl⟩
  | star =>
    cases st with
    | nil => simp [thStep] at h1
    | cons x st =>
      obtain ⟨lo, f, fs1, rfl, F, S⟩ := S.inv
      cases h1; cases h2
      have hf := rd _ (List.mem_cons_self ..)
      refine wrap_inv F S fun i j hi => ?_
      rw [star_iff hf (lt hi)]
      constructor
      · rintro (⟨k, h1, h2⟩ | ⟨_, rfl⟩)
        · rcases h2 with rfl | ⟨_, h2⟩
          · exact .step h1 (.refl _)
          · exact .step h1 h2
        · exact .refl _
      · intro h
        cases h with
        | refl => exact .inr ⟨rfl, rfl⟩
        | step h1 h2 => exact .inl ⟨_, h1, .inr ⟨rfl, h2⟩⟩
  | plus =>
    cases st with
    | nil => simp [thStep] at h1
    | cons x st =>
      obtain ⟨lo, f, fs1, rfl, F, S⟩ := S.inv
      cases h1; cases h2
      have hf := rd _ (List.mem_cons_self ..)
      refine wrap_inv F S fun i j hi => ?_
      rw [mcat_iff]
      constructor
      · rintro (⟨k, h1, h2⟩ | ⟨h, _⟩)
        · have hk := (hf _ _ h1).2
          refine ⟨k, hk, h1, (star_iff hf hk).mpr ?_⟩
          rcases h2 with rfl | ⟨_, h2⟩
          · exact .refl _
          · exact h2
        · cases h
      · rintro ⟨k, hk, h1, h2⟩
        exact .inl ⟨k, h1, .inr ⟨rfl, (star_iff hf hk).mp h2⟩⟩
  | opt =>
    cases st with
    | nil => simp [thStep] at h1
    | cons x st =>
      obtain ⟨lo, f, fs1, rfl, F, S⟩ := S.inv
      cases h1; cases h2
      refine wrap_inv F S fun i j hi => ?_
      rw [malt_iff, meps_iff]
      constructor
      · rintro (⟨k, h1, h2⟩ | ⟨_, rfl⟩)
        · rcases h2 with rfl | ⟨h, _⟩
          · exact .inl h1
          · cases h
        · exact .inr ⟨rfl, lt hi⟩
      · rintro (h | ⟨rfl, _⟩)
        · exact .inl ⟨j, h, .inl rfl⟩
        · exact .inr ⟨rfl, rfl⟩
  | cat =>
    cases st with
    | nil => simp [thStep] at h1
    | cons r st =>
      cases st with
      | nil => simp [thStep] at h1
      | cons l st =>
        obtain ⟨mid, g, fs1, rfl, K, S⟩ := S.inv
        obtain ⟨lo, f, fs2, rfl, F, S⟩ := S.inv
        cases h1; cases h2
        have hf := rd _ (List.mem_cons_of_mem _ (List.mem_cons_self ..))
        have a1 := F.a1; have a2 := F.a2; have c1 := K.s1; have c2 := K.s2
        simp only [addE_len]
        refine .cons (frag_cat F K (fun u _ _ h3 => addE_ne _ h3) (addE_self _ F.acc) fun i j _ => mcat_ex hf) (S.congr fun u hu => addE_ne _ (by lia))
  | alt =>
    cases st with
    | nil => simp [thStep] at h1
    | cons r st =>
      cases st with
      | nil => simp [thStep] at h1
      | cons l st =>
        obtain ⟨s2, a2⟩ := r
        obtain ⟨s1, a1⟩ := l
        obtain ⟨mid, g, fs1, rfl, K, S⟩ := S.inv
        obtain ⟨lo, f, fs2, rfl, F, S⟩ := S.inv
        dsimp only at K F
        cases h1; cases h2
        have b1 := F.a1; have b2 := F.a2; have c1 := K.a1; have c2 := K.a2; have c3 := K.s1
        have n1 : a1 ≠ E.length := by lia
        have n2 : a2 ≠ E.length := by lia
        have n3 : a1 ≠ a2 := by lia
        simp only [addE_len, two_len]
        have e1 : (two E)[a1]? = some [] := by rw [two_old (by lia)]; exact F.acc
        have e2 : (two E)[a2]? = some [] := by rw [two_old (by lia)]; exact K.acc
        refine .cons (frag_alt F K (fun u h1 h2 h3 h4 => ?_) ?_ ?_ ?_ ?_ fun i j _ => malt_iff.symm) (S.congr fun u hu => ?_)
        · simp only [addE_ne _ h3, addE_ne _ h4, addE_ne _ (show u ≠ E.length by lia), two_old h2]
        · rw [addE_ne _ n3, addE_self (es := []) _ (by simp only [addE_ne _ n1]; exact e1)]; rfl
        · rw [addE_self (es := []) _ (by simp only [addE_ne _ (Ne.symm n3), addE_ne _ n2]; exact e2)]; rfl
        · simp only [addE_ne _ (Ne.symm n1), addE_ne _ (Ne.symm n2)]
          exact addE_self _ (addE_self _ (two_s E))
        · simp only [addE_ne _ (show E.length + 1 ≠ a1 by lia), addE_ne _ (show E.length + 1 ≠ a2 by lia), addE_ne _ (show E.length + 1 ≠ E.length by lia), two_a]
        · have := F.s1; have := F.s2
          simp only [addE_ne _ (show u ≠ a1 by lia), addE_ne _ (show u ≠ a2 by lia), addE_ne _ (show u ≠ E.length by lia), two_old (show u < E.length by lia)]
end
end Mine
end

section
set_option autoImplicit false
set_option linter.unusedVariables false
set_option maxRecDepth 100000
namespace Mine
open PySem
noncomputable def tv : List (Str × V) := [("_law_KINDS", .tup [.str "chr", .str "any", .str "eps", .str "star", .str "plus", .str "opt", .str "cat", .str "alt"])]
noncomputable abbrev G (d : Nat) : Glob := globs PySem.Challenge.pw_k12_0041 (fun x => tv.lookup x) true d
noncomputable def n_n : Str := ⟨#[110]⟩
noncomputable def n_kind : Str := ⟨#[107, 105, 110, 100]⟩
noncomputable def n_c : Str := ⟨#[99]⟩
noncomputable def n_text : Str := ⟨#[116, 101, 120, 116]⟩
noncomputable def n_table : Str := ⟨#[116, 97, 98, 108, 101]⟩
noncomputable def n_i : Str := ⟨#[105]⟩
noncomputable def n_a : Str := ⟨#[97]⟩
noncomputable def n_b : Str := ⟨#[98]⟩
noncomputable def n_size : Str := ⟨#[115, 105, 122, 101]⟩
noncomputable def n_k : Str := ⟨#[107]⟩
noncomputable def n_j : Str := ⟨#[106]⟩
noncomputable def n_post : Str := ⟨#[112, 111, 115, 116]⟩
noncomputable def n_stack : Str := ⟨#[115, 116, 97, 99, 107]⟩
noncomputable def n_item : Str := ⟨#[105, 116, 101, 109]⟩
noncomputable def n_left : Str := ⟨#[108, 101, 102, 116]⟩
noncomputable def n_right : Str := ⟨#[114, 105, 103, 104, 116]⟩
noncomputable def n_edges : Str := ⟨#[101, 100, 103, 101, 115]⟩
noncomputable def n_s : Str := ⟨#[115]⟩
noncomputable def n_label : Str := ⟨#[108, 97, 98, 101, 108]⟩
noncomputable def n_inner : Str := ⟨#[105, 110, 110, 101, 114]⟩
noncomputable def n_nfa : Str := ⟨#[110, 102, 97]⟩
noncomputable def n_todo : Str := ⟨#[116, 111, 100, 111]⟩
noncomputable def n_tried : Str := ⟨#[116, 114, 105, 101, 100]⟩
noncomputable def n_here : Str := ⟨#[104, 101, 114, 101]⟩
noncomputable def n_e : Str := ⟨#[101]⟩
noncomputable def n_script : Str := ⟨#[115, 99, 114, 105, 112, 116]⟩
noncomputable def n_words : Str := ⟨#[119, 111, 114, 100, 115]⟩
noncomputable def n_first : Str := ⟨#[102, 105, 114, 115, 116]⟩
noncomputable def n_got : Str := ⟨#[103, 111, 116]⟩
noncomputable def n_more : Str := ⟨#[109, 111, 114, 101]⟩
noncomputable def n_args : Str := ⟨#[97, 114, 103, 115]⟩
noncomputable def n_langs : Str := ⟨#[108, 97, 110, 103, 115]⟩
noncomputable def n_rest : Str := ⟨#[114, 101, 115, 116]⟩
noncomputable def n_cell : Str := ⟨#[99, 101, 108, 108]⟩
noncomputable def n_due : Str := ⟨#[100, 117, 101]⟩
noncomputable def n_kept : Str := ⟨#[107, 101, 112, 116]⟩
noncomputable def f_blank_table : Str := ⟨#[98, 108, 97, 110, 107, 95, 116, 97, 98, 108, 101]⟩
noncomputable def f_table_of_sign : Str := ⟨#[116, 97, 98, 108, 101, 95, 111, 102, 95, 115, 105, 103, 110]⟩
noncomputable def f_table_cat : Str := ⟨#[116, 97, 98, 108, 101, 95, 99, 97, 116]⟩
noncomputable def f_table_alt : Str := ⟨#[116, 97, 98, 108, 101, 95, 97, 108, 116]⟩
noncomputable def f_table_star : Str := ⟨#[116, 97, 98, 108, 101, 95, 115, 116, 97, 114]⟩
noncomputable def f_means : Str := ⟨#[109, 101, 97, 110, 115]⟩
noncomputable def f_thompson : Str := ⟨#[116, 104, 111, 109, 112, 115, 111, 110]⟩
noncomputable def f_backtrack_accepts : Str := ⟨#[98, 97, 99, 107, 116, 114, 97, 99, 107, 95, 97, 99, 99, 101, 112, 116, 115]⟩
noncomputable def f_law_the_backtracker_means_it : Str := ⟨#[108, 97, 119, 95, 116, 104, 101, 95, 98, 97, 99, 107, 116, 114, 97, 99, 107, 101, 114, 95, 109, 101, 97, 110, 115, 95, 105, 116]⟩
noncomputable def f_law_NEEDS : Str := ⟨#[95, 108, 97, 119, 95, 78, 69, 69, 68, 83]⟩
noncomputable def f_law_cell : Str := ⟨#[95, 108, 97, 119, 95, 99, 101, 108, 108]⟩
noncomputable def f_law_cat : Str := ⟨#[95, 108, 97, 119, 95, 99, 97, 116]⟩
noncomputable def f_law_many : Str := ⟨#[95, 108, 97, 119, 95, 109, 97, 110, 121]⟩
noncomputable def f_law_value : Str := ⟨#[95, 108, 97, 119, 95, 118, 97, 108, 117, 101]⟩
noncomputable def f_law_put : Str := ⟨#[95, 108, 97, 119, 95, 112, 117, 116]⟩
noncomputable def f_law : Str := ⟨#[108, 97, 119]⟩
theorem ne_table_of_sign : (n_kind = n_c) = False ∧ (n_kind = n_text) = False ∧ (n_kind = n_n) = False ∧ (n_kind = n_table) = False ∧ (n_kind = n_i) = False ∧ (n_c = n_kind) = False ∧ (n_c = n_text) = False ∧ (n_c = n_n) = False ∧ (n_c = n_table) = False ∧ (n_c = n_i) = False ∧ (n_text = n_kind) = False ∧ (n_text = n_c) = False ∧ (n_text = n_n) = False ∧ (n_text = n_table) = False ∧ (n_text = n_i) = False ∧ (n_n = n_kind) = False ∧ (n_n = n_c) = False ∧ (n_n = n_text) = False ∧ (n_n = n_table) = False ∧ (n_n = n_i) = False ∧ (n_table = n_kind) = False ∧ (n_table = n_c) = False ∧ (n_table = n_text) = False ∧ (n_table = n_n) = False ∧ (n_table = n_i) = False ∧ (n_i = n_kind) = False ∧ (n_i = n_c) = False ∧ (n_i = n_text) = False ∧ (n_i = n_n) = False ∧ (n_i = n_table) = False := ⟨eq_false (by decide), eq_false (by decide), eq_false (by decide), eq_false (by decide), eq_false (by decide), eq_false (by decide), eq_false (by decide), eq_false (by decide), eq_false (by decide), eq_false (by decide), eq_false (by decide), eq_false (by decide), eq_false (by decide), eq_false (by decide), eq_false (by decide), eq_false (by decide), eq_false (by decide), eq_false (by decide), eq_false (by decide), eq_false (by decide), eq_false (by decide), eq_false (by decide), eq_false (by decide), eq_false (by decide), eq_false (by decide), eq_false (by decide), eq_false (by decide), eq_false (by decide), eq_false (by decide), eq_false (by decide)⟩
theorem ne_table_cat : (n_a = n_b) = False ∧ (n_a = n_size) = False ∧ (n_a = n_table) = False ∧ (n_a = n_i) = False ∧ (n_a = n_k) = False ∧ (n_a = n_j) = False ∧ (n_b = n_a) = False ∧ (n_b = n_size) = False ∧ (n_b = n_table) = False ∧ (n_b = n_i) = False ∧ (n_b = n_k) = False ∧ (n_b = n_j) = False ∧ (n_size = n_a) = False ∧ (n_size = n_b) = False ∧ (n_size = n_table) = False ∧ (n_size = n_i) = False ∧ (n_size = n_k) = False ∧ (n_size = n_j) = False ∧ (n_table = n_a) = False ∧ (n_table = n_b) = False ∧ (n_table = n_size) = False ∧ (n_table = n_i) = False ∧ (n_table = n_k) = False ∧ (n_table = n_j) = False ∧ (n_i = n_a) = False ∧ (n_i = n_b) = False ∧ (n_i = n_size) = False ∧ (n_i = n_table) = False ∧ (n_i = n_k) = False ∧ (n_i = n_j) = False ∧ (n_k = n_a) = False ∧ (n_k = n_b) = False ∧ (n_k = n_size) = False ∧ (n_k = n_table) = False ∧ (n_k = n_i) = False ∧ (n_k = n_j) = False ∧ (n_j = n_a) = False ∧ (n_j = n_b) = False ∧ (n_j = n_size) = False ∧ (n_j = n_table) = False ∧ (n_j = n_i) = False ∧ (n_j = n_k) = False := ⟨eq_false (by decide), eq_false (by decide), eq_false (by decide), eq_false (by decide), eq_false (by decide), eq_false (by decide), eq_false (by decide), eq_false (by decide), eq_false (by decide), eq_false (by decide), eq_false (by decide), eq_false (by decide), eq_false (by decide), eq_false (by decide), eq_false (by decide), eq_false (by decide), eq_false (by decide), eq_false (by decide), eq_false (by decide), eq_false (by decide), eq_false (by decide), eq_false (by decide), eq_false (by decide), eq_false (by decide), eq_false (by decide), eq_false (by decide), eq_false (by decide), eq_false (by decide), eq_false (by decide), eq_false (by decide), eq_false (by decide), eq_false (by decide), eq_false (by decide), eq_false (by decide), eq_false (by decide), eq_false (by decide), eq_false (by decide), eq_false (by decide), eq_false (by decide), eq_false (by decide), eq_false (by decide), eq_false (by decide)⟩
theorem ne_table_alt : (n_a = n_b) = False ∧ (n_b = n_a) = False := ⟨eq_false (by decide), eq_false (by decide)⟩
theorem ne_table_star : (n_a = n_size) = False ∧ (n_a = n_table) = False ∧ (n_a = n_i) = False ∧ (n_a = n_k) = False ∧ (n_size = n_a) = False ∧ (n_size = n_table) = False ∧ (n_size = n_i) = False ∧ (n_size = n_k) = False ∧ (n_table = n_a) = False ∧ (n_table = n_size) = False ∧ (n_table = n_i) = False ∧ (n_table = n_k) = False ∧ (n_i = n_a) = False ∧ (n_i = n_size) = False ∧ (n_i = n_table) = False ∧ (n_i = n_k) = False ∧ (n_k = n_a) = False ∧ (n_k = n_size) = False ∧ (n_k = n_table) = False ∧ (n_k = n_i) = False := ⟨eq_false (by decide), eq_false (by decide), eq_false (by decide), eq_false (by decide), eq_false (by decide), eq_false (by decide), eq_false (by decide), eq_false (by decide), eq_false (by decide), eq_false (by decide), eq_false (by decide), eq_false (by decide), eq_false (by decide), eq_false (by decide), eq_false (by decide), eq_false (by decide), eq_false (by decide), eq_false (by decide), eq_false (by decide), eq_false (by decide)⟩
theorem ne_means : (n_post = n_text) = False ∧ (n_post = n_stack) = False ∧ (n_post = n_item) = False ∧ (n_post = n_kind) = False ∧ (n_post = n_left) = False ∧ (n_post = n_right) = False ∧ (n_text = n_post) = False ∧ (n_text = n_stack) = False ∧ (n_text = n_item) = False ∧ (n_text = n_kind) = False ∧ (n_text = n_left) = False ∧ (n_text = n_right) = False ∧ (n_stack = n_post) = False ∧ (n_stack = n_text) = False ∧ (n_stack = n_item) = False ∧ (n_stack = n_kind) = False ∧ (n_stack = n_left) = False ∧ (n_stack = n_right) = False ∧ (n_item = n_post) = False ∧ (n_item = n_text) = False ∧ (n_item = n_stack) = False ∧ (n_item = n_kind) = False ∧ (n_item = n_left) = False ∧ (n_item = n_right) = False ∧ (n_kind = n_post) = False ∧ (n_kind = n_text) = False ∧ (n_kind = n_stack) = False ∧ (n_kind = n_item) = False ∧ (n_kind = n_left) = False ∧ (n_kind = n_right) = False ∧ (n_left = n_post) = False ∧ (n_left = n_text) = False ∧ (n_left = n_stack) = False ∧ (n_left = n_item) = False ∧ (n_left = n_kind) = False ∧ (n_left = n_right) = False ∧ (n_right = n_post) = False ∧ (n_right = n_text) = False ∧ (n_right = n_stack) = False ∧ (n_right = n_item) = False ∧ (n_right = n_kind) = False ∧ (n_right = n_left) = False := ⟨eq_false (by decide), eq_false (by decide), eq_false (by decide), eq_false (by decide), eq_false (by decide), eq_false (by decide), eq_false (by decide), eq_false (by decide), eq_false (by decide), eq_false (by decide), eq_false (by decide), eq_false (by decide), eq_false (by decide), eq_false (by decide), eq_false (by decide), eq_false (by decide), eq_false (by decide), eq_false (by decide), eq_false (by decide), eq_false (by decide), eq_false (by decide), eq_false (by decide), eq_false (by decide), eq_false (by decide), eq_false (by decide), eq_false (by decide), eq_false (by decide), eq_false (by decide), eq_false (by decide), eq_false (by decide), eq_false (by decide), eq_false (by decide), eq_false (by decide), eq_false (by decide), eq_false (by decide), eq_false (by decide), eq_false (by decide), eq_false (by decide), eq_false (by decide), eq_false (by decide), eq_false (by decide), eq_false (by decide)⟩
theorem ne_thompson : (n_post = n_edges) = False ∧ (n_post = n_stack) = False ∧ (n_post = n_item) = False ∧ (n_post = n_kind) = False ∧ (n_post = n_left) = False ∧ (n_post = n_right) = False ∧ (n_post = n_s) = False ∧ (n_post = n_a) = False ∧ (n_post = n_label) = False ∧ (n_post = n_inner) = False ∧ (n_edges = n_post) = False ∧ (n_edges = n_stack) = False ∧ (n_edges = n_item) = False ∧ (n_edges = n_kind) = False ∧ (n_edges = n_left) = False ∧ (n_edges = n_right) = False ∧ (n_edges = n_s) = False ∧ (n_edges = n_a) = False ∧ (n_edges = n_label) = False ∧ (n_edges = n_inner) = False ∧ (n_stack = n_post) = False ∧ (n_stack = n_edges) = False ∧ (n_stack = n_item) = False ∧ (n_stack = n_kind) = False ∧ (n_stack = n_left) = False ∧ (n_stack = n_right) = False ∧ (n_stack = n_s) = False ∧ (n_stack = n_a) = False ∧ (n_stack = n_label) = False ∧ (n_stack = n_inner) = False ∧ (n_item = n_post) = False ∧ (n_item = n_edges) = False ∧ (n_item = n_stack) = False ∧ (n_item = n_kind) = False ∧ (n_item = n_left) = False ∧ (n_item = n_right) = False ∧ (n_item = n_s) = False ∧ (n_item = n_a) = False ∧ (n_item = n_label) = False ∧ (n_item = n_inner) = False ∧ (n_kind = n_post) = False ∧ (n_kind = n_edges) = False ∧ (n_kind = n_stack) = False ∧ (n_kind = n_item) = False ∧ (n_kind = n_left) = False ∧ (n_kind = n_right) = False ∧ (n_kind = n_s) = False ∧ (n_kind = n_a) = False ∧ (n_kind = n_label) = False ∧ (n_kind = n_inner) = False ∧ (n_left = n_post) = False ∧ (n_left = n_edges) = False ∧ (n_left = n_stack) = False ∧ (n_left = n_item) = False ∧ (n_left = n_kind) = False ∧ (n_left = n_right) = False ∧ (n_left = n_s) = False ∧ (n_left = n_a) = False ∧ (n_left = n_label) = False ∧ (n_left = n_inner) = False ∧ (n_right = n_post) = False ∧ (n_right = n_edges) = False ∧ (n_right = n_stack) = False ∧ (n_right = n_item) = False ∧ (n_right = n_kind) = False ∧ (n_right = n_left) = False ∧ (n_right = n_s) = False ∧ (n_right = n_a) = False ∧ (n_right = n_label) = False ∧ (n_right = n_inner) = False ∧ (n_s = n_post) = False ∧ (n_s = n_edges) = False ∧ (n_s = n_stack) = False ∧ (n_s = n_item) = False ∧ (n_s = n_kind) = False ∧ (n_s = n_left) = False ∧ (n_s = n_right) = False ∧ (n_s = n_a) = False ∧ (n_s = n_label) = False ∧ (n_s = n_inner) = False ∧ (n_a = n_post) = False ∧ (n_a = n_edges) = False ∧ (n_a = n_stack) = False ∧ (n_a = n_item) = False ∧ (n_a = n_kind) = False ∧ (n_a = n_left) = False ∧ (n_a = n_right) = False ∧ (n_a = n_s) = False ∧ (n_a = n_label) = False ∧ (n_a = n_inner) = False ∧ (n_label = n_post) = False ∧ (n_label = n_edges) = False ∧ (n_label = n_stack) = False ∧ (n_label = n_item) = False ∧ (n_label = n_kind) = False ∧ (n_label = n_left) = False ∧ (n_label = n_right) = False ∧ (n_label = n_s) = False ∧ (n_label = n_a) = False ∧ (n_label = n_inner) = False ∧ (n_inner = n_post) = False ∧ (n_inner = n_edges) = False ∧ (n_inner = n_stack) = False ∧ (n_inner = n_item) = False ∧ (n_inner = n_kind) = False ∧ (n_inner = n_left) = False ∧ (n_inner = n_right) = False ∧ (n_inner = n_s) = False ∧ (n_inner = n_a) = False ∧ (n_inner = n_label) = False := ⟨eq_false (by decide), eq_false (by decide), eq_false (by decide), eq_false (by decide), eq_false (by decide), eq_false (by decide), eq_false (by decide), eq_false (by decide), eq_false (by decide), eq_false (by decide), eq_false (by decide), eq_false (by decide), eq_false (by decide), eq_false (by decide), eq_false (by decide), eq_false (by decide), eq_false (by decide), eq_false (by decide), eq_false (by decide), eq_false (by decide), eq_false (by decide), eq_false (by decide), eq_false (by decide), eq_false (by decide), eq_false (by decide), eq_false (by decide), eq_false (by decide), eq_false (by decide), eq_false (by decide), eq_false (by decide), eq_false (by decide), eq_false (by decide), eq_false (by decide), eq_false (by decide), eq_false (by decide), eq_false (by decide), eq_false (by decide), eq_false (by decide), eq_false (by decide), eq_false (by decide), eq_false (by decide), eq_false (by decide), eq_false (by decide), eq_false (by decide), eq_false (by decide), eq_false (by decide), eq_false (by decide), eq_false (by decide), eq_false (by decide), eq_false (by decide), eq_false (by decide), eq_false (by decide), eq_false (by decide), eq_false (by decide), eq_false (by decide), eq_false (by decide), eq_false (by decide), eq_false (by decide), eq_false (by decide), eq_false (by decide), eq_false (by decide), eq_false (by decide), eq_false (by decide), eq_false (by decide), eq_false (by decide), eq_false (by decide), eq_false (by decide), eq_false (by decide), eq_false (by decide), eq_false (by decide), eq_false (by decide), eq_false (by decide), eq_false (by decide), eq_false (by decide), eq_false (by decide), eq_false (by decide), eq_false (by decide), eq_false (by decide), eq_false (by decide), eq_false (by decide), eq_false (by decide), eq_false (by decide), eq_false (by decide), eq_false (by decide), eq_false (by decide), eq_false (by decide), eq_false (by decide), eq_false (by decide), eq_false (by decide), eq_false (by decide), eq_false (by decide), eq_false (by decide), eq_false (by decide), eq_false (by decide), eq_false (by decide), eq_false (by decide), eq_false (by decide), eq_false (by decide), eq_false (by decide), eq_false (by decide), eq_false (by decide), eq_false (by decide), eq_false (by decide), eq_false (by decide), eq_false (by decide), eq_false (by decide), eq_false (by decide), eq_false (by decide), eq_false (by decide), eq_false (by decide)⟩
theorem ne_backtrack_accepts : (n_nfa = n_text) = False ∧ (n_nfa = n_edges) = False ∧ (n_nfa = n_n) = False ∧ (n_nfa = n_todo) = False ∧ (n_nfa = n_tried) = False ∧ (n_nfa = n_k) = False ∧ (n_nfa = n_here) = False ∧ (n_nfa = n_s) = False ∧ (n_nfa = n_i) = False ∧ (n_nfa = n_e) = False ∧ (n_text = n_nfa) = False ∧ (n_text = n_edges) = False ∧ (n_text = n_n) = False ∧ (n_text = n_todo) = False ∧ (n_text = n_tried) = False ∧ (n_text = n_k) = False ∧ (n_text = n_here) = False ∧ (n_text = n_s) = False ∧ (n_text = n_i) = False ∧ (n_text = n_e) = False ∧ (n_edges = n_nfa) = False ∧ (n_edges = n_text) = False ∧ (n_edges = n_n) = False ∧ (n_edges = n_todo) = False ∧ (n_edges = n_tried) = False ∧ (n_edges = n_k) = False ∧ (n_edges = n_here) = False ∧ (n_edges = n_s) = False ∧ (n_edges = n_i) = False ∧ (n_edges = n_e) = False ∧ (n_n = n_nfa) = False ∧ (n_n = n_text) = False ∧ (n_n = n_edges) = False ∧ (n_n = n_todo) = False ∧ (n_n = n_tried) = False ∧ (n_n = n_k) = False ∧ (n_n = n_here) = False ∧ (n_n = n_s) = False ∧ (n_n = n_i) = False ∧ (n_n = n_e) = False ∧ (n_todo = n_nfa) = False ∧ (n_todo = n_text) = False ∧ (n_todo = n_edges) = False ∧ (n_todo = n_n) = False ∧ (n_todo = n_tried) = False ∧ (n_todo = n_k) = False ∧ (n_todo = n_here) = False ∧ (n_todo = n_s) = False ∧ (n_todo = n_i) = False ∧ (n_todo = n_e) = False ∧ (n_tried = n_nfa) = False ∧ (n_tried = n_text) = False ∧ (n_tried = n_edges) = False ∧ (n_tried = n_n) = False ∧ (n_tried = n_todo) = False ∧ (n_tried = n_k) = False ∧ (n_tried = n_here) = False ∧ (n_tried = n_s) = False ∧ (n_tried = n_i) = False ∧ (n_tried = n_e) = False ∧ (n_k = n_nfa) = False ∧ (n_k = n_text) = False ∧ (n_k = n_edges) = False ∧ (n_k = n_n) = False ∧ (n_k = n_todo) = False ∧ (n_k = n_tried) = False ∧ (n_k = n_here) = False ∧ (n_k = n_s) = False ∧ (n_k = n_i) = False ∧ (n_k = n_e) = False ∧ (n_here = n_nfa) = False ∧ (n_here = n_text) = False ∧ (n_here = n_edges) = False ∧ (n_here = n_n) = False ∧ (n_here = n_todo) = False ∧ (n_here = n_tried) = False ∧ (n_here = n_k) = False ∧ (n_here = n_s) = False ∧ (n_here = n_i) = False ∧ (n_here = n_e) = False ∧ (n_s = n_nfa) = False ∧ (n_s = n_text) = False ∧ (n_s = n_edges) = False ∧ (n_s = n_n) = False ∧ (n_s = n_todo) = False ∧ (n_s = n_tried) = False ∧ (n_s = n_k) = False ∧ (n_s = n_here) = False ∧ (n_s = n_i) = False ∧ (n_s = n_e) = False ∧ (n_i = n_nfa) = False ∧ (n_i = n_text) = False ∧ (n_i = n_edges) = False ∧ (n_i = n_n) = False ∧ (n_i = n_todo) = False ∧ (n_i = n_tried) = False ∧ (n_i = n_k) = False ∧ (n_i = n_here) = False ∧ (n_i = n_s) = False ∧ (n_i = n_e) = False ∧ (n_e = n_nfa) = False ∧ (n_e = n_text) = False ∧ (n_e = n_edges) = False ∧ (n_e = n_n) = False ∧ (n_e = n_todo) = False ∧ (n_e = n_tried) = False ∧ (n_e = n_k) = False ∧ (n_e = n_here) = False ∧ (n_e = n_s) = False ∧ (n_e = n_i) = False := ⟨eq_false (by decide), eq_false (by decide), eq_false (by decide), eq_false (by decide), eq_false (by decide), eq_false (by decide), eq_false (by decide), eq_false (by decide), eq_false (by decide), eq_false (by decide), eq_false (by decide), eq_false (by decide), eq_false (by decide), eq_false (by decide), eq_false (by decide), eq_false (by decide), eq_false (by decide), eq_false (by decide), eq_false (by decide), eq_false (by decide), eq_false (by decide), eq_false (by decide), eq_false (by decide), eq_false (by decide), eq_false (by decide), eq_false (by decide), eq_false (by decide), eq_false (by decide), eq_false (by decide), eq_false (by decide), eq_false (by decide), eq_false (by decide), eq_false (by decide), eq_false (by decide), eq_false (by decide), eq_false (by decide), eq_false (by decide), eq_false (by decide), eq_false (by decide), eq_false (by decide), eq_false (by decide), eq_false (by decide), eq_false (by decide), eq_false (by decide), eq_false (by decide), eq_false (by decide), eq_false (by decide), eq_false (by decide), eq_false (by decide), eq_false (by decide), eq_false (by decide), eq_false (by decide), eq_false (by decide), eq_false (by decide), eq_false (by decide), eq_false (by decide), eq_false (by decide), eq_false (by decide), eq_false (by decide), eq_false (by decide), eq_false (by decide), eq_false (by decide), eq_false (by decide), eq_false (by decide), eq_false (by decide), eq_false (by decide), eq_false (by decide), eq_false (by decide), eq_false (by decide), eq_false (by decide), eq_false (by decide), eq_false (by decide), eq_false (by decide), eq_false (by decide), eq_false (by decide), eq_false (by decide), eq_false (by decide), eq_false (by decide), eq_false (by decide), eq_false (by decide), eq_false (by decide), eq_false (by decide), eq_false (by decide), eq_false (by decide), eq_false (by decide), eq_false (by decide), eq_false (by decide), eq_false (by decide), eq_false (by decide), eq_false (by decide), eq_false (by decide), eq_false (by decide), eq_false (by decide), eq_false (by decide), eq_false (by decide), eq_false (by decide), eq_false (by decide), eq_false (by decide), eq_false (by decide), eq_false (by decide), eq_false (by decide), eq_false (by decide), eq_false (by decide), eq_false (by decide), eq_false (by decide), eq_false (by decide), eq_false (by decide), eq_false (by decide), eq_false (by decide), eq_false (by decide)⟩
theorem ne_law_the_backtracker_means_it : (n_post = n_text) = False ∧ (n_text = n_post) = False := ⟨eq_false (by decide), eq_false (by decide)⟩
theorem ne_law_cell : (n_script = n_k) = False ∧ (n_k = n_script) = False := ⟨eq_false (by decide), eq_false (by decide)⟩
theorem ne_law_cat : (n_words = n_a) = False ∧ (n_words = n_b) = False ∧ (n_a = n_words) = False ∧ (n_a = n_b) = False ∧ (n_b = n_words) = False ∧ (n_b = n_a) = False := ⟨eq_false (by decide), eq_false (by decide), eq_false (by decide), eq_false (by decide), eq_false (by decide), eq_false (by decide)⟩
theorem ne_law_many : (n_words = n_first) = False ∧ (n_words = n_a) = False ∧ (n_words = n_got) = False ∧ (n_words = n_k) = False ∧ (n_words = n_more) = False ∧ (n_first = n_words) = False ∧ (n_first = n_a) = False ∧ (n_first = n_got) = False ∧ (n_first = n_k) = False ∧ (n_first = n_more) = False ∧ (n_a = n_words) = False ∧ (n_a = n_first) = False ∧ (n_a = n_got) = False ∧ (n_a = n_k) = False ∧ (n_a = n_more) = False ∧ (n_got = n_words) = False ∧ (n_got = n_first) = False ∧ (n_got = n_a) = False ∧ (n_got = n_k) = False ∧ (n_got = n_more) = False ∧ (n_k = n_words) = False ∧ (n_k = n_first) = False ∧ (n_k = n_a) = False ∧ (n_k = n_got) = False ∧ (n_k = n_more) = False ∧ (n_more = n_words) = False ∧ (n_more = n_first) = False ∧ (n_more = n_a) = False ∧ (n_more = n_got) = False ∧ (n_more = n_k) = False := ⟨eq_false (by decide), eq_false (by decide), eq_false (by decide), eq_false (by decide), eq_false (by decide), eq_false (by decide), eq_false (by decide), eq_false (by decide), eq_false (by decide), eq_false (by decide), eq_false (by decide), eq_false (by decide), eq_false (by decide), eq_false (by decide), eq_false (by decide), eq_false (by decide), eq_false (by decide), eq_false (by decide), eq_false (by decide), eq_false (by decide), eq_false (by decide), eq_false (by decide), eq_false (by decide), eq_false (by decide), eq_false (by decide), eq_false (by decide), eq_false (by decide), eq_false (by decide), eq_false (by decide), eq_false (by decide)⟩
theorem ne_law_value : (n_kind = n_c) = False ∧ (n_kind = n_args) = False ∧ (n_kind = n_words) = False ∧ (n_c = n_kind) = False ∧ (n_c = n_args) = False ∧ (n_c = n_words) = False ∧ (n_args = n_kind) = False ∧ (n_args = n_c) = False ∧ (n_args = n_words) = False ∧ (n_words = n_kind) = False ∧ (n_words = n_c) = False ∧ (n_words = n_args) = False := ⟨eq_false (by decide), eq_false (by decide), eq_false (by decide), eq_false (by decide), eq_false (by decide), eq_false (by decide), eq_false (by decide), eq_false (by decide), eq_false (by decide), eq_false (by decide), eq_false (by decide), eq_false (by decide)⟩
theorem ne_law_put : (n_langs = n_kind) = False ∧ (n_langs = n_c) = False ∧ (n_langs = n_words) = False ∧ (n_langs = n_rest) = False ∧ (n_kind = n_langs) = False ∧ (n_kind = n_c) = False ∧ (n_kind = n_words) = False ∧ (n_kind = n_rest) = False ∧ (n_c = n_langs) = False ∧ (n_c = n_kind) = False ∧ (n_c = n_words) = False ∧ (n_c = n_rest) = False ∧ (n_words = n_langs) = False ∧ (n_words = n_kind) = False ∧ (n_words = n_c) = False ∧ (n_words = n_rest) = False ∧ (n_rest = n_langs) = False ∧ (n_rest = n_kind) = False ∧ (n_rest = n_c) = False ∧ (n_rest = n_words) = False := ⟨eq_false (by decide), eq_false (by decide), eq_false (by decide), eq_false (by decide), eq_false (by decide), eq_false (by decide), eq_false (by decide), eq_false (by decide), eq_false (by decide), eq_false (by decide), eq_false (by decide), eq_false (by decide), eq_false (by decide), eq_false (by decide), eq_false (by decide), eq_false (by decide), eq_false (by decide), eq_false (by decide), eq_false (by decide), eq_false (by decide)⟩
theorem ne_law : (n_script = n_k) = False ∧ (n_script = n_text) = False ∧ (n_script = n_words) = False ∧ (n_script = n_post) = False ∧ (n_script = n_langs) = False ∧ (n_script = n_cell) = False ∧ (n_script = n_kind) = False ∧ (n_script = n_c) = False ∧ (n_script = n_due) = False ∧ (n_script = n_kept) = False ∧ (n_k = n_script) = False ∧ (n_k = n_text) = False ∧ (n_k = n_words) = False ∧ (n_k = n_post) = False ∧ (n_k = n_langs) = False ∧ (n_k = n_cell) = False ∧ (n_k = n_kind) = False ∧ (n_k = n_c) = False ∧ (n_k = n_due) = False ∧ (n_k = n_kept) = False ∧ (n_text = n_script) = False ∧ (n_text = n_k) = False ∧ (n_text = n_words) = False ∧ (n_text = n_post) = False ∧ (n_text = n_langs) = False ∧ (n_text = n_cell) = False ∧ (n_text = n_kind) = False ∧ (n_text = n_c) = False ∧ (n_text = n_due) = False ∧ (n_text = n_kept) = False ∧ (n_words = n_script) = False ∧ (n_words = n_k) = False ∧ (n_words = n_text) = False ∧ (n_words = n_post) = False ∧ (n_words = n_langs) = False ∧ (n_words = n_cell) = False ∧ (n_words = n_kind) = False ∧ (n_words = n_c) = False ∧ (n_words = n_due) = False ∧ (n_words = n_kept) = False ∧ (n_post = n_script) = False ∧ (n_post = n_k) = False ∧ (n_post = n_text) = False ∧ (n_post = n_words) = False ∧ (n_post = n_langs) = False ∧ (n_post = n_cell) = False ∧ (n_post = n_kind) = False ∧ (n_post = n_c) = False ∧ (n_post = n_due) = False ∧ (n_post = n_kept) = False ∧ (n_langs = n_script) = False ∧ (n_langs = n_k) = False ∧ (n_langs = n_text) = False ∧ (n_langs = n_words) = False ∧ (n_langs = n_post) = False ∧ (n_langs = n_cell) = False ∧ (n_langs = n_kind) = False ∧ (n_langs = n_c) = False ∧ (n_langs = n_due) = False ∧ (n_langs = n_kept) = False ∧ (n_cell = n_script) = False ∧ (n_cell = n_k) = False ∧ (n_cell = n_text) = False ∧ (n_cell = n_words) = False ∧ (n_cell = n_post) = False ∧ (n_cell = n_langs) = False ∧ (n_cell = n_kind) = False ∧ (n_cell = n_c) = False ∧ (n_cell = n_due) = False ∧ (n_cell = n_kept) = False ∧ (n_kind = n_script) = False ∧ (n_kind = n_k) = False ∧ (n_kind = n_text) = False ∧ (n_kind = n_words) = False ∧ (n_kind = n_post) = False ∧ (n_kind = n_langs) = False ∧ (n_kind = n_cell) = False ∧ (n_kind = n_c) = False ∧ (n_kind = n_due) = False ∧ (n_kind = n_kept) = False ∧ (n_c = n_script) = False ∧ (n_c = n_k) = False ∧ (n_c = n_text) = False ∧ (n_c = n_words) = False ∧ (n_c = n_post) = False ∧ (n_c = n_langs) = False ∧ (n_c = n_cell) = False ∧ (n_c = n_kind) = False ∧ (n_c = n_due) = False ∧ (n_c = n_kept) = False ∧ (n_due = n_script) = False ∧ (n_due = n_k) = False ∧ (n_due = n_text) = False ∧ (n_due = n_words) = False ∧ (n_due = n_post) = False ∧ (n_due = n_langs) = False ∧ (n_due = n_cell) = False ∧ (n_due = n_kind) = False ∧ (n_due = n_c) = False ∧ (n_due = n_kept) = False ∧ (n_kept = n_script) = False ∧ (n_kept = n_k) = False ∧ (n_kept = n_text) = False ∧ (n_kept = n_words) = False ∧ (n_kept = n_post) = False ∧ (n_kept = n_langs) = False ∧ (n_kept = n_cell) = False ∧ (n_kept = n_kind) = False ∧ (n_kept = n_c) = False ∧ (n_kept = n_due) = False := ⟨eq_false (by decide), eq_false (by decide), eq_false (by decide), eq_false (by decide), eq_false (by decide), eq_false (by decide), eq_false (by decide), eq_false (by decide), eq_false (by decide), eq_false (by decide), eq_false (by decide), eq_false (by decide), eq_false (by decide), eq_false (by decide), eq_false (by decide), eq_false (by decide), eq_false (by decide), eq_false (by decide), eq_false (by decide), eq_false (by decide), eq_false (by decide), eq_false (by decide), eq_false (by decide), eq_false (by decide), eq_false (by decide), eq_false (by decide), eq_false (by decide), eq_false (by decide), eq_false (by decide), eq_false (by decide), eq_false (by decide), eq_false (by decide), eq_false (by decide), eq_false (by decide), eq_false (by decide), eq_false (by decide), eq_false (by decide), eq_false (by decide), eq_false (by decide), eq_false (by decide), eq_false (by decide), eq_false (by decide), eq_false (by decide), eq_false (by decide), eq_false (by decide), eq_false (by decide), eq_false (by decide), eq_false (by decide), eq_false (by decide), eq_false (by decide), eq_false (by decide), eq_false (by decide), eq_false (by decide), eq_false (by decide), eq_false (by decide), eq_false (by decide), eq_false (by decide), eq_false (by decide), eq_false (by decide), eq_false (by decide), eq_false (by decide), eq_false (by decide), eq_false (by decide), eq_false (by decide), eq_false (by decide), eq_false (by decide), eq_false (by decide), eq_false (by decide), eq_false (by decide), eq_false (by decide), eq_false (by decide), eq_false (by decide), eq_false (by decide), eq_false (by decide), eq_false (by decide), eq_false (by decide), eq_false (by decide), eq_false (by decide), eq_false (by decide), eq_false (by decide), eq_false (by decide), eq_false (by decide), eq_false (by decide), eq_false (by decide), eq_false (by decide), eq_false (by decide), eq_false (by decide), eq_false (by decide), eq_false (by decide), eq_false (by decide), eq_false (by decide), eq_false (by decide), eq_false (by decide), eq_false (by decide), eq_false (by decide), eq_false (by decide), eq_false (by decide), eq_false (by decide), eq_false (by decide), eq_false (by decide), eq_false (by decide), eq_false (by decide), eq_false (by decide), eq_false (by decide), eq_false (by decide), eq_false (by decide), eq_false (by decide), eq_false (by decide), eq_false (by decide), eq_false (by decide)⟩
noncomputable def blank_table_s (d : Nat) (a_n : V) (h : Hp) : Option (V × Hp) :=
let b := h.length
(binop .Add a_n (V.int (1)) h).bind fun p0 =>
(rangeArgs [p0.1]).bind fun r1 =>
(loopL none (rangeV r1.1 r1.2) (fun x2 h3 => 
(binop .Add a_n (V.int (1)) h3).bind fun p5 =>
(rangeArgs [p5.1]).bind fun r6 =>
(loopL none (rangeV r6.1 r6.2) (fun x7 h8 => 
appendTo p5.2.length (V.bool false) h8) (rangeV r6.1 r6.2) (p5.2 ++ [[]])).bind fun h9 =>
appendTo p0.2.length (V.ref p5.2.length) h9) (rangeV r1.1 r1.2) (p0.2 ++ [[]])).bind fun h4 =>
some ((V.ref p0.2.length), h4)

theorem blank_table_eq (d : Nat) (a_n : V) (h : Hp) : (G (d + 2)).fn f_blank_table [a_n] h = blank_table_s d a_n h := (fn_eq ..).trans (by kernel_rfl)

noncomputable def table_of_sign_l14 (d b : Nat) (x : V) (ρ : Rho) (h : Hp) : Option (Fl × Rho × Hp) :=
(ρ n_kind).bind fun v15 =>
(cmpop .Eq v15 (V.str ⟨#[101, 112, 115]⟩) h).bind fun t16 =>
if t16 then
(ρ n_table).bind fun v17 =>
(idx v17 x h).bind fun v18 =>
(setIdx b v18 x (V.bool true) h).bind fun h19 =>
some (Fl.next, (upd ρ n_i x), h19)
else
(ρ n_n).bind fun v20 =>
(cmpop .Lt x v20 h).bind fun t21 =>
if t21 then
(ρ n_kind).bind fun v22 =>
(cmpop .Eq v22 (V.str ⟨#[97, 110, 121]⟩) h).bind fun t23 =>
if t23 then
(ρ n_table).bind fun v32 =>
(idx v32 x h).bind fun v33 =>
(binop .Add x (V.int (1)) h).bind fun p34 =>
(setIdx b v33 p34.1 (V.bool true) p34.2).bind fun h35 =>
some (Fl.next, (upd ρ n_i x), h35)
else
(ρ n_text).bind fun v24 =>
(idx v24 x h).bind fun v25 =>
(ρ n_c).bind fun v26 =>
(cmpop .Eq v25 v26 h).bind fun t27 =>
if t27 then
(ρ n_table).bind fun v28 =>
(idx v28 x h).bind fun v29 =>
(binop .Add x (V.int (1)) h).bind fun p30 =>
(setIdx b v29 p30.1 (V.bool true) p30.2).bind fun h31 =>
some (Fl.next, (upd ρ n_i x), h31)
else
some (Fl.next, (upd ρ n_i x), h)
else
some (Fl.next, (upd ρ n_i x), h)

noncomputable def table_of_sign_s (d : Nat) (a_kind : V) (a_c : V) (a_text : V) (h : Hp) : Option (V × Hp) :=
let b := h.length
(callB b_len [a_text] h).bind fun p10 =>
((G (d + 1)).fn f_blank_table [p10.1] p10.2).bind fun p11 =>
(binop .Add p10.1 (V.int (1)) p11.2).bind fun p12 =>
(rangeArgs [p12.1]).bind fun r13 =>
(loopS none (rangeV r13.1 r13.2) (table_of_sign_l14 d b) (rangeV r13.1 r13.2) (upd (upd (fun x => List.lookup x (List.zip [n_kind, n_c, n_text] [a_kind, a_c, a_text]).reverse) n_n p10.1) n_table p11.1) p12.2).bind fun q36 =>
(match q36.1 with
| .next =>
(q36.2.1 n_table).bind fun v38 =>
some (v38, q36.2.2)
| f37 =>
(match f37 with
| .ret v => some (v, q36.2.2)
| .next => some (V.none, q36.2.2)
| _ => none))

theorem table_of_sign_eq (d : Nat) (a_kind : V) (a_c : V) (a_text : V) (h : Hp) : (G (d + 2)).fn f_table_of_sign [a_kind, a_c, a_text] h = table_of_sign_s d a_kind a_c a_text h := (fn_eq ..).trans (by kernel_rfl)

noncomputable def table_cat_l54 (d b : Nat) (x : V) (ρ : Rho) (h : Hp) : Option (Fl × Rho × Hp) :=
(ρ n_b).bind fun v55 =>
(ρ n_k).bind fun v56 =>
(idx v55 v56 h).bind fun v57 =>
(idx v57 x h).bind fun v58 =>
(truthV v58).bind fun t59 =>
if t59 then
(ρ n_table).bind fun v60 =>
(ρ n_i).bind fun v61 =>
(idx v60 v61 h).bind fun v62 =>
(setIdx b v62 x (V.bool true) h).bind fun h63 =>
some (Fl.next, (upd ρ n_j x), h63)
else
some (Fl.next, (upd ρ n_j x), h)

noncomputable def table_cat_l46 (d b : Nat) (x : V) (ρ : Rho) (h : Hp) : Option (Fl × Rho × Hp) :=
(ρ n_a).bind fun v47 =>
(ρ n_i).bind fun v48 =>
(idx v47 v48 h).bind fun v49 =>
(idx v49 x h).bind fun v50 =>
(truthV v50).bind fun t51 =>
if t51 then
(ρ n_size).bind fun v52 =>
(rangeArgs [v52]).bind fun r53 =>
(loopS none (rangeV r53.1 r53.2) (table_cat_l54 d b) (rangeV r53.1 r53.2) (upd ρ n_k x) h).bind fun q64 =>
(match q64.1 with
| .next =>
some (Fl.next, q64.2.1, q64.2.2)
| f65 =>
(match f65 with
| .next =>
some (Fl.next, q64.2.1, q64.2.2)
| f66 =>
some (f66, q64.2.1, q64.2.2)))
else
some (Fl.next, (upd ρ n_k x), h)

noncomputable def table_cat_l43 (d b : Nat) (x : V) (ρ : Rho) (h : Hp) : Option (Fl × Rho × Hp) :=
(ρ n_size).bind fun v44 =>
(rangeArgs [v44]).bind fun r45 =>
(loopS none (rangeV r45.1 r45.2) (table_cat_l46 d b) (rangeV r45.1 r45.2) (upd ρ n_i x) h).bind fun q67 =>
(match q67.1 with
| .next =>
some (Fl.next, q67.2.1, q67.2.2)
| f68 =>
some (f68, q67.2.1, q67.2.2))

noncomputable def table_cat_s (d : Nat) (a_a : V) (a_b : V) (h : Hp) : Option (V × Hp) :=
let b := h.length
(callB b_len [a_a] h).bind fun p39 =>
(binop .Sub p39.1 (V.int (1)) p39.2).bind fun p40 =>
((G (d + 1)).fn f_blank_table [p40.1] p40.2).bind fun p41 =>
(rangeArgs [p39.1]).bind fun r42 =>
(loopS none (rangeV r42.1 r42.2) (table_cat_l43 d b) (rangeV r42.1 r42.2) (upd (upd (fun x => List.lookup x (List.zip [n_a, n_b] [a_a, a_b]).reverse) n_size p39.1) n_table p41.1) p41.2).bind fun q69 =>
(match q69.1 with
| .next =>
(q69.2.1 n_table).bind fun v71 =>
some (v71, q69.2.2)
| f70 =>
(match f70 with
| .ret v => some (v, q69.2.2)
| .next => some (V.none, q69.2.2)
| _ => none))

theorem table_cat_eq (d : Nat) (a_a : V) (a_b : V) (h : Hp) : (G (d + 2)).fn f_table_cat [a_a, a_b] h = table_cat_s d a_a a_b h := (fn_eq ..).trans (by kernel_rfl)

noncomputable def table_alt_s (d : Nat) (a_a : V) (a_b : V) (h : Hp) : Option (V × Hp) :=
let b := h.length
(callB b_len [a_a] h).bind fun p72 =>
(rangeArgs [p72.1]).bind fun r73 =>
(loopL none (rangeV r73.1 r73.2) (fun x74 h75 => 
(callB b_len [a_a] h75).bind fun p77 =>
(rangeArgs [p77.1]).bind fun r78 =>
(loopL none (rangeV r78.1 r78.2) (fun x79 h80 => 
(idx a_a x74 h80).bind fun v82 =>
(idx v82 x79 h80).bind fun v83 =>
(truthV v83).bind fun t84 =>
if t84 then
appendTo p77.2.length v83 h80
else
(idx a_b x74 h80).bind fun v85 =>
(idx v85 x79 h80).bind fun v86 =>
appendTo p77.2.length v86 h80) (rangeV r78.1 r78.2) (p77.2 ++ [[]])).bind fun h81 =>
appendTo p72.2.length (V.ref p77.2.length) h81) (rangeV r73.1 r73.2) (p72.2 ++ [[]])).bind fun h76 =>
some ((V.ref p72.2.length), h76)

theorem table_alt_eq (d : Nat) (a_a : V) (a_b : V) (h : Hp) : (G (d + 2)).fn f_table_alt [a_a, a_b] h = table_alt_s d a_a a_b h := (fn_eq ..).trans (by kernel_rfl)

noncomputable def table_star_l91 (d b : Nat) (x : V) (ρ : Rho) (h : Hp) : Option (Fl × Rho × Hp) :=
(ρ n_table).bind fun v92 =>
(idx v92 x h).bind fun v93 =>
(setIdx b v93 x (V.bool true) h).bind fun h94 =>
some (Fl.next, (upd ρ n_i x), h94)

noncomputable def table_star_l99 (d b : Nat) (x : V) (ρ : Rho) (h : Hp) : Option (Fl × Rho × Hp) :=
(ρ n_table).bind fun v100 =>
(ρ n_table).bind fun v101 =>
(ρ n_a).bind fun v102 =>
((G (d + 1)).fn f_table_cat [v101, v102] h).bind fun p103 =>
((G (d + 1)).fn f_table_alt [v100, p103.1] p103.2).bind fun p104 =>
some (Fl.next, (upd (upd ρ n_k x) n_table p104.1), p104.2)

noncomputable def table_star_s (d : Nat) (a_a : V) (h : Hp) : Option (V × Hp) :=
let b := h.length
(callB b_len [a_a] h).bind fun p87 =>
(binop .Sub p87.1 (V.int (1)) p87.2).bind fun p88 =>
((G (d + 1)).fn f_blank_table [p88.1] p88.2).bind fun p89 =>
(rangeArgs [p87.1]).bind fun r90 =>
(loopS none (rangeV r90.1 r90.2) (table_star_l91 d b) (rangeV r90.1 r90.2) (upd (upd (fun x => List.lookup x (List.zip [n_a] [a_a]).reverse) n_size p87.1) n_table p89.1) p89.2).bind fun q95 =>
(match q95.1 with
| .next =>
(q95.2.1 n_size).bind fun v97 =>
(rangeArgs [v97]).bind fun r98 =>
(loopS none (rangeV r98.1 r98.2) (table_star_l99 d b) (rangeV r98.1 r98.2) q95.2.1 q95.2.2).bind fun q105 =>
(match q105.1 with
| .next =>
(q105.2.1 n_table).bind fun v107 =>
some (v107, q105.2.2)
| f106 =>
(match f106 with
| .ret v => some (v, q105.2.2)
| .next => some (V.none, q105.2.2)
| _ => none))
| f96 =>
(match f96 with
| .ret v => some (v, q95.2.2)
| .next => some (V.none, q95.2.2)
| _ => none))

theorem table_star_eq (d : Nat) (a_a : V) (h : Hp) : (G (d + 2)).fn f_table_star [a_a] h = table_star_s d a_a h := (fn_eq ..).trans (by kernel_rfl)

noncomputable def means_b117 (d b : Nat) (ρ : Rho) (h : Hp) : Option (Fl × Rho × Hp) :=
(ρ n_stack).bind fun v110 =>
(ρ n_kind).bind fun v111 =>
(ρ n_item).bind fun v112 =>
(idx v112 (V.int (1)) h).bind fun v113 =>
(ρ n_text).bind fun v114 =>
((G (d + 1)).fn f_table_of_sign [v111, v113, v114] h).bind fun p115 =>
(callM b m_append v110 [p115.1] p115.2).bind fun p116 =>
if isNoneV p116.1 then
finN d b ρ p116.2
else none

noncomputable def means_b125 (d b : Nat) (ρ : Rho) (h : Hp) : Option (Fl × Rho × Hp) :=
(ρ n_stack).bind fun v118 =>
(unop .USub (V.int (1))).bind fun u119 =>
(idx v118 u119 h).bind fun v120 =>
((G (d + 1)).fn f_table_star [v120] h).bind fun p121 =>
(ρ n_stack).bind fun v122 =>
(unop .USub (V.int (1))).bind fun u123 =>
(setIdx b v122 u123 p121.1 p121.2).bind fun h124 =>
finN d b ρ h124

noncomputable def means_b137 (d b : Nat) (ρ : Rho) (h : Hp) : Option (Fl × Rho × Hp) :=
(ρ n_stack).bind fun v126 =>
(unop .USub (V.int (1))).bind fun u127 =>
(idx v126 u127 h).bind fun v128 =>
(ρ n_stack).bind fun v129 =>
(unop .USub (V.int (1))).bind fun u130 =>
(idx v129 u130 h).bind fun v131 =>
((G (d + 1)).fn f_table_star [v131] h).bind fun p132 =>
((G (d + 1)).fn f_table_cat [v128, p132.1] p132.2).bind fun p133 =>
(ρ n_stack).bind fun v134 =>
(unop .USub (V.int (1))).bind fun u135 =>
(setIdx b v134 u135 p133.1 p133.2).bind fun h136 =>
finN d b ρ h136

noncomputable def means_b147 (d b : Nat) (ρ : Rho) (h : Hp) : Option (Fl × Rho × Hp) :=
(ρ n_stack).bind fun v138 =>
(unop .USub (V.int (1))).bind fun u139 =>
(idx v138 u139 h).bind fun v140 =>
(ρ n_text).bind fun v141 =>
((G (d + 1)).fn f_table_of_sign [(V.str ⟨#[101, 112, 115]⟩), (V.str ⟨#[]⟩), v141] h).bind fun p142 =>
((G (d + 1)).fn f_table_alt [v140, p142.1] p142.2).bind fun p143 =>
(ρ n_stack).bind fun v144 =>
(unop .USub (V.int (1))).bind fun u145 =>
(setIdx b v144 u145 p143.1 p143.2).bind fun h146 =>
finN d b ρ h146

noncomputable def means_b154 (d b : Nat) (ρ : Rho) (h : Hp) : Option (Fl × Rho × Hp) :=
(ρ n_left).bind fun v148 =>
(ρ n_right).bind fun v149 =>
((G (d + 1)).fn f_table_cat [v148, v149] h).bind fun p150 =>
(ρ n_stack).bind fun v151 =>
(unop .USub (V.int (1))).bind fun u152 =>
(setIdx b v151 u152 p150.1 p150.2).bind fun h153 =>
finN d b ρ h153

noncomputable def means_b161 (d b : Nat) (ρ : Rho) (h : Hp) : Option (Fl × Rho × Hp) :=
(ρ n_left).bind fun v155 =>
(ρ n_right).bind fun v156 =>
((G (d + 1)).fn f_table_alt [v155, v156] h).bind fun p157 =>
(ρ n_stack).bind fun v158 =>
(unop .USub (V.int (1))).bind fun u159 =>
(setIdx b v158 u159 p157.1 p157.2).bind fun h160 =>
finN d b ρ h160

noncomputable def means_b164 (d b : Nat) (ρ : Rho) (h : Hp) : Option (Fl × Rho × Hp) :=
(ρ n_kind).bind fun v162 =>
(cmpop .Eq v162 (V.str ⟨#[99, 97, 116]⟩) h).bind fun t163 =>
if t163 then
means_b154 d b ρ h
else
means_b161 d b ρ h

noncomputable def means_b168 (d b : Nat) (ρ : Rho) (h : Hp) : Option (Fl × Rho × Hp) :=
(ρ n_stack).bind fun v165 =>
(unop .USub (V.int (1))).bind fun u166 =>
(delIdx b v165 u166 h).bind fun h167 =>
means_b164 d b ρ h167

noncomputable def means_b172 (d b : Nat) (ρ : Rho) (h : Hp) : Option (Fl × Rho × Hp) :=
(ρ n_stack).bind fun v169 =>
(unop .USub (V.int (1))).bind fun u170 =>
(idx v169 u170 h).bind fun v171 =>
means_b168 d b (upd ρ n_right v171) h

noncomputable def means_b176 (d b : Nat) (ρ : Rho) (h : Hp) : Option (Fl × Rho × Hp) :=
(ρ n_stack).bind fun v173 =>
(unop .USub (V.int (2))).bind fun u174 =>
(idx v173 u174 h).bind fun v175 =>
means_b172 d b (upd ρ n_left v175) h

noncomputable def means_b179 (d b : Nat) (ρ : Rho) (h : Hp) : Option (Fl × Rho × Hp) :=
(ρ n_kind).bind fun v177 =>
(cmpop .Eq v177 (V.str ⟨#[111, 112, 116]⟩) h).bind fun t178 =>
if t178 then
means_b147 d b ρ h
else
means_b176 d b ρ h

noncomputable def means_b182 (d b : Nat) (ρ : Rho) (h : Hp) : Option (Fl × Rho × Hp) :=
(ρ n_kind).bind fun v180 =>
(cmpop .Eq v180 (V.str ⟨#[112, 108, 117, 115]⟩) h).bind fun t181 =>
if t181 then
means_b137 d b ρ h
else
means_b179 d b ρ h

noncomputable def means_b185 (d b : Nat) (ρ : Rho) (h : Hp) : Option (Fl × Rho × Hp) :=
(ρ n_kind).bind fun v183 =>
(cmpop .Eq v183 (V.str ⟨#[115, 116, 97, 114]⟩) h).bind fun t184 =>
if t184 then
means_b125 d b ρ h
else
means_b182 d b ρ h

noncomputable def means_b188 (d b : Nat) (ρ : Rho) (h : Hp) : Option (Fl × Rho × Hp) :=
(ρ n_kind).bind fun v186 =>
(cmpop .In v186 (V.tup [(V.str ⟨#[99, 104, 114]⟩), (V.str ⟨#[97, 110, 121]⟩), (V.str ⟨#[101, 112, 115]⟩)]) h).bind fun t187 =>
if t187 then
means_b117 d b ρ h
else
means_b185 d b ρ h

noncomputable def means_b191 (d b : Nat) (ρ : Rho) (h : Hp) : Option (Fl × Rho × Hp) :=
(ρ n_item).bind fun v189 =>
(idx v189 (V.int (0)) h).bind fun v190 =>
means_b188 d b (upd ρ n_kind v190) h

noncomputable def means_l109 (d b : Nat) (x : V) (ρ : Rho) (h : Hp) : Option (Fl × Rho × Hp) :=
means_b191 d b (upd ρ n_item x) h

noncomputable def means_s (d : Nat) (a_post : V) (a_text : V) (h : Hp) : Option (V × Hp) :=
let b := h.length
(itemsOf a_post (h ++ [[]])).bind fun q108 =>
(loopS q108.2 q108.1 (means_l109 d b) q108.1 (upd (fun x => List.lookup x (List.zip [n_post, n_text] [a_post, a_text]).reverse) n_stack (V.ref h.length)) (h ++ [[]])).bind fun q192 =>
(match q192.1 with
| .next =>
(q192.2.1 n_stack).bind fun v194 =>
(unop .USub (V.int (1))).bind fun u195 =>
(idx v194 u195 q192.2.2).bind fun v196 =>
(idx v196 (V.int (0)) q192.2.2).bind fun v197 =>
(q192.2.1 n_text).bind fun v198 =>
(callB b_len [v198] q192.2.2).bind fun p199 =>
(idx v197 p199.1 p199.2).bind fun v200 =>
some (v200, p199.2)
| f193 =>
(match f193 with
| .ret v => some (v, q192.2.2)
| .next => some (V.none, q192.2.2)
| _ => none))

theorem means_eq (d : Nat) (a_post : V) (a_text : V) (h : Hp) : (G (d + 2)).fn f_means [a_post, a_text] h = means_s d a_post a_text h := (fn_eq ..).trans (by kernel_rfl)

noncomputable def thompson_b207 (d b : Nat) (ρ : Rho) (h : Hp) : Option (Fl × Rho × Hp) :=
(ρ n_stack).bind fun v203 =>
(ρ n_s).bind fun v204 =>
(ρ n_a).bind fun v205 =>
(callM b m_append v203 [(V.tup [v204, v205])] h).bind fun p206 =>
if isNoneV p206.1 then
finN d b ρ p206.2
else none

noncomputable def thompson_b214 (d b : Nat) (ρ : Rho) (h : Hp) : Option (Fl × Rho × Hp) :=
(ρ n_edges).bind fun v208 =>
(ρ n_s).bind fun v209 =>
(idx v208 v209 h).bind fun v210 =>
(ρ n_label).bind fun v211 =>
(ρ n_a).bind fun v212 =>
(callM b m_append v210 [(V.tup [v211, v212])] h).bind fun p213 =>
if isNoneV p213.1 then
thompson_b207 d b ρ p213.2
else none

noncomputable def thompson_b215 (d b : Nat) (ρ : Rho) (h : Hp) : Option (Fl × Rho × Hp) :=
thompson_b214 d b (upd ρ n_label (V.str ⟨#[46]⟩)) h

noncomputable def thompson_b218 (d b : Nat) (ρ : Rho) (h : Hp) : Option (Fl × Rho × Hp) :=
(ρ n_kind).bind fun v216 =>
(cmpop .Eq v216 (V.str ⟨#[97, 110, 121]⟩) h).bind fun t217 =>
if t217 then
thompson_b215 d b ρ h
else
thompson_b214 d b ρ h

noncomputable def thompson_b221 (d b : Nat) (ρ : Rho) (h : Hp) : Option (Fl × Rho × Hp) :=
(ρ n_item).bind fun v219 =>
(idx v219 (V.int (1)) h).bind fun v220 =>
thompson_b218 d b (upd ρ n_label v220) h

noncomputable def thompson_b227 (d b : Nat) (ρ : Rho) (h : Hp) : Option (Fl × Rho × Hp) :=
(ρ n_s).bind fun v222 =>
(ρ n_a).bind fun v223 =>
(ρ n_stack).bind fun v224 =>
(unop .USub (V.int (1))).bind fun u225 =>
(setIdx b v224 u225 (V.tup [v222, v223]) h).bind fun h226 =>
finN d b ρ h226

noncomputable def thompson_b234 (d b : Nat) (ρ : Rho) (h : Hp) : Option (Fl × Rho × Hp) :=
(ρ n_edges).bind fun v228 =>
(ρ n_right).bind fun v229 =>
(idx v229 (V.int (1)) h).bind fun v230 =>
(idx v228 v230 h).bind fun v231 =>
(ρ n_a).bind fun v232 =>
(callM b m_append v231 [(V.tup [(V.str ⟨#[]⟩), v232])] h).bind fun p233 =>
if isNoneV p233.1 then
thompson_b227 d b ρ p233.2
else none

noncomputable def thompson_b241 (d b : Nat) (ρ : Rho) (h : Hp) : Option (Fl × Rho × Hp) :=
(ρ n_edges).bind fun v235 =>
(ρ n_left).bind fun v236 =>
(idx v236 (V.int (1)) h).bind fun v237 =>
(idx v235 v237 h).bind fun v238 =>
(ρ n_a).bind fun v239 =>
(callM b m_append v238 [(V.tup [(V.str ⟨#[]⟩), v239])] h).bind fun p240 =>
if isNoneV p240.1 then
thompson_b234 d b ρ p240.2
else none

noncomputable def thompson_b248 (d b : Nat) (ρ : Rho) (h : Hp) : Option (Fl × Rho × Hp) :=
(ρ n_edges).bind fun v242 =>
(ρ n_s).bind fun v243 =>
(idx v242 v243 h).bind fun v244 =>
(ρ n_right).bind fun v245 =>
(idx v245 (V.int (0)) h).bind fun v246 =>
(callM b m_append v244 [(V.tup [(V.str ⟨#[]⟩), v246])] h).bind fun p247 =>
if isNoneV p247.1 then
thompson_b241 d b ρ p247.2
else none

noncomputable def thompson_b255 (d b : Nat) (ρ : Rho) (h : Hp) : Option (Fl × Rho × Hp) :=
(ρ n_edges).bind fun v249 =>
(ρ n_s).bind fun v250 =>
(idx v249 v250 h).bind fun v251 =>
(ρ n_left).bind fun v252 =>
(idx v252 (V.int (0)) h).bind fun v253 =>
(callM b m_append v251 [(V.tup [(V.str ⟨#[]⟩), v253])] h).bind fun p254 =>
if isNoneV p254.1 then
thompson_b248 d b ρ p254.2
else none

noncomputable def thompson_b259 (d b : Nat) (ρ : Rho) (h : Hp) : Option (Fl × Rho × Hp) :=
(ρ n_stack).bind fun v256 =>
(unop .USub (V.int (1))).bind fun u257 =>
(delIdx b v256 u257 h).bind fun h258 =>
thompson_b255 d b ρ h258

noncomputable def thompson_b263 (d b : Nat) (ρ : Rho) (h : Hp) : Option (Fl × Rho × Hp) :=
(ρ n_stack).bind fun v260 =>
(unop .USub (V.int (1))).bind fun u261 =>
(idx v260 u261 h).bind fun v262 =>
thompson_b259 d b (upd ρ n_right v262) h

noncomputable def thompson_b267 (d b : Nat) (ρ : Rho) (h : Hp) : Option (Fl × Rho × Hp) :=
(ρ n_stack).bind fun v264 =>
(unop .USub (V.int (2))).bind fun u265 =>
(idx v264 u265 h).bind fun v266 =>
thompson_b263 d b (upd ρ n_left v266) h

noncomputable def thompson_b273 (d b : Nat) (ρ : Rho) (h : Hp) : Option (Fl × Rho × Hp) :=
(ρ n_s).bind fun v268 =>
(ρ n_a).bind fun v269 =>
(ρ n_stack).bind fun v270 =>
(unop .USub (V.int (1))).bind fun u271 =>
(setIdx b v270 u271 (V.tup [v268, v269]) h).bind fun h272 =>
finN d b ρ h272

noncomputable def thompson_b280 (d b : Nat) (ρ : Rho) (h : Hp) : Option (Fl × Rho × Hp) :=
(ρ n_edges).bind fun v274 =>
(ρ n_inner).bind fun v275 =>
(idx v275 (V.int (1)) h).bind fun v276 =>
(idx v274 v276 h).bind fun v277 =>
(ρ n_a).bind fun v278 =>
(callM b m_append v277 [(V.tup [(V.str ⟨#[]⟩), v278])] h).bind fun p279 =>
if isNoneV p279.1 then
thompson_b273 d b ρ p279.2
else none

noncomputable def thompson_b288 (d b : Nat) (ρ : Rho) (h : Hp) : Option (Fl × Rho × Hp) :=
(ρ n_edges).bind fun v281 =>
(ρ n_inner).bind fun v282 =>
(idx v282 (V.int (1)) h).bind fun v283 =>
(idx v281 v283 h).bind fun v284 =>
(ρ n_inner).bind fun v285 =>
(idx v285 (V.int (0)) h).bind fun v286 =>
(callM b m_append v284 [(V.tup [(V.str ⟨#[]⟩), v286])] h).bind fun p287 =>
if isNoneV p287.1 then
thompson_b280 d b ρ p287.2
else none

noncomputable def thompson_b291 (d b : Nat) (ρ : Rho) (h : Hp) : Option (Fl × Rho × Hp) :=
(ρ n_kind).bind fun v289 =>
(cmpop .NotEq v289 (V.str ⟨#[111, 112, 116]⟩) h).bind fun t290 =>
if t290 then
thompson_b288 d b ρ h
else
thompson_b280 d b ρ h

noncomputable def thompson_b297 (d b : Nat) (ρ : Rho) (h : Hp) : Option (Fl × Rho × Hp) :=
(ρ n_edges).bind fun v292 =>
(ρ n_s).bind fun v293 =>
(idx v292 v293 h).bind fun v294 =>
(ρ n_a).bind fun v295 =>
(callM b m_append v294 [(V.tup [(V.str ⟨#[]⟩), v295])] h).bind fun p296 =>
if isNoneV p296.1 then
thompson_b291 d b ρ p296.2
else none

noncomputable def thompson_b300 (d b : Nat) (ρ : Rho) (h : Hp) : Option (Fl × Rho × Hp) :=
(ρ n_kind).bind fun v298 =>
(cmpop .NotEq v298 (V.str ⟨#[112, 108, 117, 115]⟩) h).bind fun t299 =>
if t299 then
thompson_b297 d b ρ h
else
thompson_b291 d b ρ h

noncomputable def thompson_b307 (d b : Nat) (ρ : Rho) (h : Hp) : Option (Fl × Rho × Hp) :=
(ρ n_edges).bind fun v301 =>
(ρ n_s).bind fun v302 =>
(idx v301 v302 h).bind fun v303 =>
(ρ n_inner).bind fun v304 =>
(idx v304 (V.int (0)) h).bind fun v305 =>
(callM b m_append v303 [(V.tup [(V.str ⟨#[]⟩), v305])] h).bind fun p306 =>
if isNoneV p306.1 then
thompson_b300 d b ρ p306.2
else none

noncomputable def thompson_b311 (d b : Nat) (ρ : Rho) (h : Hp) : Option (Fl × Rho × Hp) :=
(ρ n_stack).bind fun v308 =>
(unop .USub (V.int (1))).bind fun u309 =>
(idx v308 u309 h).bind fun v310 =>
thompson_b307 d b (upd ρ n_inner v310) h

noncomputable def thompson_b314 (d b : Nat) (ρ : Rho) (h : Hp) : Option (Fl × Rho × Hp) :=
(ρ n_kind).bind fun v312 =>
(cmpop .Eq v312 (V.str ⟨#[97, 108, 116]⟩) h).bind fun t313 =>
if t313 then
thompson_b267 d b ρ h
else
thompson_b311 d b ρ h

noncomputable def thompson_b317 (d b : Nat) (ρ : Rho) (h : Hp) : Option (Fl × Rho × Hp) :=
(ρ n_kind).bind fun v315 =>
(cmpop .In v315 (V.tup [(V.str ⟨#[99, 104, 114]⟩), (V.str ⟨#[97, 110, 121]⟩), (V.str ⟨#[101, 112, 115]⟩)]) h).bind fun t316 =>
if t316 then
thompson_b221 d b ρ h
else
thompson_b314 d b ρ h

noncomputable def thompson_b320 (d b : Nat) (ρ : Rho) (h : Hp) : Option (Fl × Rho × Hp) :=
(ρ n_edges).bind fun v318 =>
(callM b m_append v318 [(V.ref h.length)] (h ++ [[]])).bind fun p319 =>
if isNoneV p319.1 then
thompson_b317 d b ρ p319.2
else none

noncomputable def thompson_b323 (d b : Nat) (ρ : Rho) (h : Hp) : Option (Fl × Rho × Hp) :=
(ρ n_edges).bind fun v321 =>
(callM b m_append v321 [(V.ref h.length)] (h ++ [[]])).bind fun p322 =>
if isNoneV p322.1 then
thompson_b320 d b ρ p322.2
else none

noncomputable def thompson_b326 (d b : Nat) (ρ : Rho) (h : Hp) : Option (Fl × Rho × Hp) :=
(ρ n_s).bind fun v324 =>
(binop .Add v324 (V.int (1)) h).bind fun p325 =>
thompson_b323 d b (upd ρ n_a p325.1) p325.2

noncomputable def thompson_b329 (d b : Nat) (ρ : Rho) (h : Hp) : Option (Fl × Rho × Hp) :=
(ρ n_edges).bind fun v327 =>
(callB b_len [v327] h).bind fun p328 =>
thompson_b326 d b (upd ρ n_s p328.1) p328.2

noncomputable def thompson_b330 (d b : Nat) (ρ : Rho) (h : Hp) : Option (Fl × Rho × Hp) :=
some (Fl.cont, ρ, h)

noncomputable def thompson_b338 (d b : Nat) (ρ : Rho) (h : Hp) : Option (Fl × Rho × Hp) :=
(ρ n_left).bind fun v331 =>
(idx v331 (V.int (0)) h).bind fun v332 =>
(ρ n_right).bind fun v333 =>
(idx v333 (V.int (1)) h).bind fun v334 =>
(ρ n_stack).bind fun v335 =>
(unop .USub (V.int (1))).bind fun u336 =>
(setIdx b v335 u336 (V.tup [v332, v334]) h).bind fun h337 =>
thompson_b330 d b ρ h337

noncomputable def thompson_b346 (d b : Nat) (ρ : Rho) (h : Hp) : Option (Fl × Rho × Hp) :=
(ρ n_edges).bind fun v339 =>
(ρ n_left).bind fun v340 =>
(idx v340 (V.int (1)) h).bind fun v341 =>
(idx v339 v341 h).bind fun v342 =>
(ρ n_right).bind fun v343 =>
(idx v343 (V.int (0)) h).bind fun v344 =>
(callM b m_append v342 [(V.tup [(V.str ⟨#[]⟩), v344])] h).bind fun p345 =>
if isNoneV p345.1 then
thompson_b338 d b ρ p345.2
else none

noncomputable def thompson_b350 (d b : Nat) (ρ : Rho) (h : Hp) : Option (Fl × Rho × Hp) :=
(ρ n_stack).bind fun v347 =>
(unop .USub (V.int (1))).bind fun u348 =>
(delIdx b v347 u348 h).bind fun h349 =>
thompson_b346 d b ρ h349

noncomputable def thompson_b354 (d b : Nat) (ρ : Rho) (h : Hp) : Option (Fl × Rho × Hp) :=
(ρ n_stack).bind fun v351 =>
(unop .USub (V.int (1))).bind fun u352 =>
(idx v351 u352 h).bind fun v353 =>
thompson_b350 d b (upd ρ n_right v353) h

noncomputable def thompson_b358 (d b : Nat) (ρ : Rho) (h : Hp) : Option (Fl × Rho × Hp) :=
(ρ n_stack).bind fun v355 =>
(unop .USub (V.int (2))).bind fun u356 =>
(idx v355 u356 h).bind fun v357 =>
thompson_b354 d b (upd ρ n_left v357) h

noncomputable def thompson_b361 (d b : Nat) (ρ : Rho) (h : Hp) : Option (Fl × Rho × Hp) :=
(ρ n_kind).bind fun v359 =>
(cmpop .Eq v359 (V.str ⟨#[99, 97, 116]⟩) h).bind fun t360 =>
if t360 then
thompson_b358 d b ρ h
else
thompson_b329 d b ρ h

noncomputable def thompson_b364 (d b : Nat) (ρ : Rho) (h : Hp) : Option (Fl × Rho × Hp) :=
(ρ n_item).bind fun v362 =>
(idx v362 (V.int (0)) h).bind fun v363 =>
thompson_b361 d b (upd ρ n_kind v363) h

noncomputable def thompson_l202 (d b : Nat) (x : V) (ρ : Rho) (h : Hp) : Option (Fl × Rho × Hp) :=
thompson_b364 d b (upd ρ n_item x) h

noncomputable def thompson_s (d : Nat) (a_post : V) (h : Hp) : Option (V × Hp) :=
let b := h.length
(itemsOf a_post ((h ++ [[]]) ++ [[]])).bind fun q201 =>
(loopS q201.2 q201.1 (thompson_l202 d b) q201.1 (upd (upd (fun x => List.lookup x (List.zip [n_post] [a_post]).reverse) n_edges (V.ref h.length)) n_stack (V.ref (h ++ [[]]).length)) ((h ++ [[]]) ++ [[]])).bind fun q365 =>
(match q365.1 with
| .next =>
(q365.2.1 n_stack).bind fun v367 =>
(unop .USub (V.int (1))).bind fun u368 =>
(idx v367 u368 q365.2.2).bind fun v369 =>
(idx v369 (V.int (0)) q365.2.2).bind fun v370 =>
(q365.2.1 n_stack).bind fun v371 =>
(unop .USub (V.int (1))).bind fun u372 =>
(idx v371 u372 q365.2.2).bind fun v373 =>
(idx v373 (V.int (1)) q365.2.2).bind fun v374 =>
(q365.2.1 n_edges).bind fun v375 =>
some ((V.tup [v370, v374, v375]), q365.2.2)
| f366 =>
(match f366 with
| .ret v => some (v, q365.2.2)
| .next => some (V.none, q365.2.2)
| _ => none))

theorem thompson_eq (d : Nat) (a_post : V) (h : Hp) : (G (d + 2)).fn f_thompson [a_post] h = thompson_s d a_post h := (fn_eq ..).trans (by kernel_rfl)

noncomputable def backtrack_accepts_b396 (d b : Nat) (ρ : Rho) (h : Hp) : Option (Fl × Rho × Hp) :=
(ρ n_todo).bind fun v391 =>
(ρ n_e).bind fun v392 =>
(idx v392 (V.int (1)) h).bind fun v393 =>
(ρ n_i).bind fun v394 =>
(callM b m_append v391 [(V.tup [v393, v394])] h).bind fun p395 =>
if isNoneV p395.1 then
finN d b ρ p395.2
else none

noncomputable def backtrack_accepts_b403 (d b : Nat) (ρ : Rho) (h : Hp) : Option (Fl × Rho × Hp) :=
(ρ n_todo).bind fun v397 =>
(ρ n_e).bind fun v398 =>
(idx v398 (V.int (1)) h).bind fun v399 =>
(ρ n_i).bind fun v400 =>
(binop .Add v400 (V.int (1)) h).bind fun p401 =>
(callM b m_append v397 [(V.tup [v399, p401.1])] p401.2).bind fun p402 =>
if isNoneV p402.1 then
finN d b ρ p402.2
else none

noncomputable def backtrack_accepts_b416 (d b : Nat) (ρ : Rho) (h : Hp) : Option (Fl × Rho × Hp) :=
(ρ n_i).bind fun v404 =>
(ρ n_n).bind fun v405 =>
(cmpop .Lt v404 v405 h).bind fun t406 =>
if t406 then
(ρ n_e).bind fun v407 =>
(idx v407 (V.int (0)) h).bind fun v408 =>
(cmpop .Eq v408 (V.str ⟨#[46]⟩) h).bind fun t409 =>
if t409 then
backtrack_accepts_b403 d b ρ h
else
(ρ n_e).bind fun v410 =>
(idx v410 (V.int (0)) h).bind fun v411 =>
(ρ n_text).bind fun v412 =>
(ρ n_i).bind fun v413 =>
(idx v412 v413 h).bind fun v414 =>
(cmpop .Eq v411 v414 h).bind fun t415 =>
if t415 then
backtrack_accepts_b403 d b ρ h
else
finN d b ρ h
else
finN d b ρ h

noncomputable def backtrack_accepts_b420 (d b : Nat) (ρ : Rho) (h : Hp) : Option (Fl × Rho × Hp) :=
(ρ n_e).bind fun v417 =>
(idx v417 (V.int (0)) h).bind fun v418 =>
(cmpop .Eq v418 (V.str ⟨#[]⟩) h).bind fun t419 =>
if t419 then
backtrack_accepts_b396 d b ρ h
else
backtrack_accepts_b416 d b ρ h

noncomputable def backtrack_accepts_l390 (d b : Nat) (x : V) (ρ : Rho) (h : Hp) : Option (Fl × Rho × Hp) :=
backtrack_accepts_b420 d b (upd ρ n_e x) h

noncomputable def backtrack_accepts_b423 (d b : Nat) (ρ : Rho) (h : Hp) : Option (Fl × Rho × Hp) :=
(ρ n_edges).bind fun v386 =>
(ρ n_s).bind fun v387 =>
(idx v386 v387 h).bind fun v388 =>
(itemsOf v388 h).bind fun q389 =>
(loopS q389.2 q389.1 (backtrack_accepts_l390 d b) q389.1 ρ h).bind fun q421 =>
(match q421.1 with
| .next => finN d b q421.2.1 q421.2.2
| f422 => some (f422, q421.2.1, q421.2.2))

noncomputable def backtrack_accepts_b424 (d b : Nat) (ρ : Rho) (h : Hp) : Option (Fl × Rho × Hp) :=
some ((Fl.ret (V.bool true)), ρ, h)

noncomputable def backtrack_accepts_b432 (d b : Nat) (ρ : Rho) (h : Hp) : Option (Fl × Rho × Hp) :=
(ρ n_s).bind fun v425 =>
(ρ n_nfa).bind fun v426 =>
(idx v426 (V.int (1)) h).bind fun v427 =>
(cmpop .Eq v425 v427 h).bind fun t428 =>
if t428 then
(ρ n_i).bind fun v429 =>
(ρ n_n).bind fun v430 =>
(cmpop .Eq v429 v430 h).bind fun t431 =>
if t431 then
backtrack_accepts_b424 d b ρ h
else
backtrack_accepts_b423 d b ρ h
else
backtrack_accepts_b423 d b ρ h

noncomputable def backtrack_accepts_b435 (d b : Nat) (ρ : Rho) (h : Hp) : Option (Fl × Rho × Hp) :=
(ρ n_here).bind fun v433 =>
(idx v433 (V.int (1)) h).bind fun v434 =>
backtrack_accepts_b432 d b (upd ρ n_i v434) h

noncomputable def backtrack_accepts_b438 (d b : Nat) (ρ : Rho) (h : Hp) : Option (Fl × Rho × Hp) :=
(ρ n_here).bind fun v436 =>
(idx v436 (V.int (0)) h).bind fun v437 =>
backtrack_accepts_b435 d b (upd ρ n_s v437) h

noncomputable def backtrack_accepts_b442 (d b : Nat) (ρ : Rho) (h : Hp) : Option (Fl × Rho × Hp) :=
(ρ n_tried).bind fun v439 =>
(ρ n_here).bind fun v440 =>
(callM b m_append v439 [v440] h).bind fun p441 =>
if isNoneV p441.1 then
backtrack_accepts_b438 d b ρ p441.2
else none

noncomputable def backtrack_accepts_b443 (d b : Nat) (ρ : Rho) (h : Hp) : Option (Fl × Rho × Hp) :=
some (Fl.cont, ρ, h)

noncomputable def backtrack_accepts_b447 (d b : Nat) (ρ : Rho) (h : Hp) : Option (Fl × Rho × Hp) :=
(ρ n_here).bind fun v444 =>
(ρ n_tried).bind fun v445 =>
(cmpop .In v444 v445 h).bind fun t446 =>
if t446 then
backtrack_accepts_b443 d b ρ h
else
backtrack_accepts_b442 d b ρ h

noncomputable def backtrack_accepts_b451 (d b : Nat) (ρ : Rho) (h : Hp) : Option (Fl × Rho × Hp) :=
(ρ n_todo).bind fun v448 =>
(unop .USub (V.int (1))).bind fun u449 =>
(delIdx b v448 u449 h).bind fun h450 =>
backtrack_accepts_b447 d b ρ h450

noncomputable def backtrack_accepts_b455 (d b : Nat) (ρ : Rho) (h : Hp) : Option (Fl × Rho × Hp) :=
(ρ n_todo).bind fun v452 =>
(unop .USub (V.int (1))).bind fun u453 =>
(idx v452 u453 h).bind fun v454 =>
backtrack_accepts_b451 d b (upd ρ n_here v454) h

noncomputable def backtrack_accepts_b456 (d b : Nat) (ρ : Rho) (h : Hp) : Option (Fl × Rho × Hp) :=
some (Fl.brk, ρ, h)

noncomputable def backtrack_accepts_b460 (d b : Nat) (ρ : Rho) (h : Hp) : Option (Fl × Rho × Hp) :=
(ρ n_todo).bind fun v457 =>
(callB b_len [v457] h).bind fun p458 =>
(cmpop .Eq p458.1 (V.int (0)) p458.2).bind fun t459 =>
if t459 then
backtrack_accepts_b456 d b ρ p458.2
else
backtrack_accepts_b455 d b ρ p458.2

noncomputable def backtrack_accepts_l385 (d b : Nat) (x : V) (ρ : Rho) (h : Hp) : Option (Fl × Rho × Hp) :=
backtrack_accepts_b460 d b (upd ρ n_k x) h

noncomputable def backtrack_accepts_s (d : Nat) (a_nfa : V) (a_text : V) (h : Hp) : Option (V × Hp) :=
let b := h.length
(idx a_nfa (V.int (2)) h).bind fun v376 =>
(callB b_len [a_text] h).bind fun p377 =>
(idx a_nfa (V.int (0)) p377.2).bind fun v378 =>
(callB b_len [v376] ((p377.2 ++ [[(V.tup [v378, (V.int (0))])]]) ++ [[]])).bind fun p379 =>
(binop .Mult (V.int (2)) p379.1 p379.2).bind fun p380 =>
(binop .Add p377.1 (V.int (1)) p380.2).bind fun p381 =>
(binop .Mult p380.1 p381.1 p381.2).bind fun p382 =>
(binop .Add p382.1 (V.int (1)) p382.2).bind fun p383 =>
(rangeArgs [p383.1]).bind fun r384 =>
(loopS none (rangeV r384.1 r384.2) (backtrack_accepts_l385 d b) (rangeV r384.1 r384.2) (upd (upd (upd (upd (fun x => List.lookup x (List.zip [n_nfa, n_text] [a_nfa, a_text]).reverse) n_edges v376) n_n p377.1) n_todo (V.ref p377.2.length)) n_tried (V.ref (p377.2 ++ [[(V.tup [v378, (V.int (0))])]]).length)) p383.2).bind fun q461 =>
(match q461.1 with
| .next =>
some ((V.bool false), q461.2.2)
| f462 =>
(match f462 with
| .ret v => some (v, q461.2.2)
| .next => some (V.none, q461.2.2)
| _ => none))

theorem backtrack_accepts_eq (d : Nat) (a_nfa : V) (a_text : V) (h : Hp) : (G (d + 2)).fn f_backtrack_accepts [a_nfa, a_text] h = backtrack_accepts_s d a_nfa a_text h := (fn_eq ..).trans (by kernel_rfl)

noncomputable def law_the_backtracker_means_it_s (d : Nat) (a_post : V) (a_text : V) (h : Hp) : Option (V × Hp) :=
let b := h.length
((G (d + 1)).fn f_thompson [a_post] h).bind fun p463 =>
((G (d + 1)).fn f_backtrack_accepts [p463.1, a_text] p463.2).bind fun p464 =>
((G (d + 1)).fn f_means [a_post, a_text] p464.2).bind fun p465 =>
(cmpop .Eq p464.1 p465.1 p465.2).bind fun t466 =>
some ((V.bool t466), p465.2)

theorem law_the_backtracker_means_it_eq (d : Nat) (a_post : V) (a_text : V) (h : Hp) : (G (d + 2)).fn f_law_the_backtracker_means_it [a_post, a_text] h = law_the_backtracker_means_it_s d a_post a_text h := (fn_eq ..).trans (by kernel_rfl)

noncomputable def law_cell_s (d : Nat) (a_script : V) (a_k : V) (h : Hp) : Option (V × Hp) :=
let b := h.length
(callB b_len [a_script] h).bind fun p467 =>
(cmpop .Lt a_k p467.1 p467.2).bind fun t468 =>
if t468 then
(idx a_script a_k p467.2).bind fun v469 =>
some (v469, p467.2)
else
some ((V.int (0)), p467.2)

theorem law_cell_eq (d : Nat) (a_script : V) (a_k : V) (h : Hp) : (G (d + 2)).fn f_law_cell [a_script, a_k] h = law_cell_s d a_script a_k h := (fn_eq ..).trans (by kernel_rfl)

noncomputable def law_cat_s (d : Nat) (a_words : V) (a_a : V) (a_b : V) (h : Hp) : Option (V × Hp) :=
let b := h.length
(itemsOf a_words h).bind fun q470 =>
(loopL q470.2 q470.1 (fun x471 h472 => 
(callB b_len [x471] h472).bind fun p474 =>
(binop .Add p474.1 (V.int (1)) p474.2).bind fun p475 =>
(rangeArgs [p475.1]).bind fun r476 =>
(anyG (fun x477 => 
(slice x471 V.none x477 V.none p475.2).bind fun p479 =>
(cmpop .In p479.1 a_a p479.2).bind fun t480 =>
(truthV (V.bool t480)).bind fun t481 =>
if t481 then
(slice x471 x477 V.none V.none p479.2).bind fun p482 =>
(cmpop .In p482.1 a_b p482.2).bind fun t483 =>
keepH p475.2 p482.2 (V.bool t483)
else
keepH p475.2 p479.2 (V.bool t480)) (rangeV r476.1 r476.2)).bind fun t478 =>
if t478 then
appendTo h.length x471 p475.2
else
if false then appendTo h.length x471 p475.2 else some p475.2) q470.1 (h ++ [[]])).bind fun h473 =>
some ((V.ref h.length), h473)

theorem law_cat_eq (d : Nat) (a_words : V) (a_a : V) (a_b : V) (h : Hp) : (G (d + 2)).fn f_law_cat [a_words, a_a, a_b] h = law_cat_s d a_words a_a a_b h := (fn_eq ..).trans (by kernel_rfl)

noncomputable def law_many_l485 (d b : Nat) (x : V) (ρ : Rho) (h : Hp) : Option (Fl × Rho × Hp) :=
(ρ n_words).bind fun v486 =>
(ρ n_got).bind fun v487 =>
(ρ n_a).bind fun v488 =>
((G (d + 1)).fn f_law_cat [v486, v487, v488] h).bind fun p489 =>
(ρ n_words).bind fun v490 =>
(itemsOf v490 p489.2).bind fun q491 =>
(loopL q491.2 q491.1 (fun x492 h493 => 
(ρ n_got).bind fun v495 =>
(cmpop .In x492 v495 h493).bind fun t496 =>
if t496 then
if true then
appendTo p489.2.length x492 h493
else
if false then appendTo p489.2.length x492 h493 else some h493
else
(cmpop .In x492 p489.1 h493).bind fun t497 =>
if t497 then
if true then
appendTo p489.2.length x492 h493
else
if false then appendTo p489.2.length x492 h493 else some h493
else
if false then
appendTo p489.2.length x492 h493
else
if false then appendTo p489.2.length x492 h493 else some h493) q491.1 (p489.2 ++ [[]])).bind fun h494 =>
some (Fl.next, (upd (upd (upd ρ n_k x) n_more p489.1) n_got (V.ref p489.2.length)), h494)

noncomputable def law_many_s (d : Nat) (a_words : V) (a_first : V) (a_a : V) (h : Hp) : Option (V × Hp) :=
let b := h.length
(rangeArgs [(V.int (3))]).bind fun r484 =>
(loopS none (rangeV r484.1 r484.2) (law_many_l485 d b) (rangeV r484.1 r484.2) (upd (fun x => List.lookup x (List.zip [n_words, n_first, n_a] [a_words, a_first, a_a]).reverse) n_got a_first) h).bind fun q498 =>
(match q498.1 with
| .next =>
(q498.2.1 n_got).bind fun v500 =>
some (v500, q498.2.2)
| f499 =>
(match f499 with
| .ret v => some (v, q498.2.2)
| .next => some (V.none, q498.2.2)
| _ => none))

theorem law_many_eq (d : Nat) (a_words : V) (a_first : V) (a_a : V) (h : Hp) : (G (d + 2)).fn f_law_many [a_words, a_first, a_a] h = law_many_s d a_words a_first a_a h := (fn_eq ..).trans (by kernel_rfl)

noncomputable def law_value_s (d : Nat) (a_kind : V) (a_c : V) (a_args : V) (a_words : V) (h : Hp) : Option (V × Hp) :=
let b := h.length
(cmpop .Eq a_kind (V.str ⟨#[99, 104, 114]⟩) h).bind fun t501 =>
if t501 then
(itemsOf a_words h).bind fun q502 =>
(loopL q502.2 q502.1 (fun x503 h504 => 
(cmpop .Eq x503 a_c h504).bind fun t506 =>
if t506 then
appendTo h.length x503 h504
else
if false then appendTo h.length x503 h504 else some h504) q502.1 (h ++ [[]])).bind fun h505 =>
some ((V.ref h.length), h505)
else
(cmpop .Eq a_kind (V.str ⟨#[97, 110, 121]⟩) h).bind fun t507 =>
if t507 then
(itemsOf a_words h).bind fun q508 =>
(loopL q508.2 q508.1 (fun x509 h510 => 
(callB b_len [x509] h510).bind fun p512 =>
(cmpop .Eq p512.1 (V.int (1)) p512.2).bind fun t513 =>
if t513 then
appendTo h.length x509 p512.2
else
if false then appendTo h.length x509 p512.2 else some p512.2) q508.1 (h ++ [[]])).bind fun h511 =>
some ((V.ref h.length), h511)
else
(cmpop .Eq a_kind (V.str ⟨#[101, 112, 115]⟩) h).bind fun t514 =>
if t514 then
some ((V.ref h.length), (h ++ [[(V.str ⟨#[]⟩)]]))
else
(cmpop .Eq a_kind (V.str ⟨#[115, 116, 97, 114]⟩) h).bind fun t515 =>
if t515 then
(idx a_args (V.int (0)) (h ++ [[(V.str ⟨#[]⟩)]])).bind fun v516 =>
((G (d + 1)).fn f_law_many [a_words, (V.ref h.length), v516] (h ++ [[(V.str ⟨#[]⟩)]])).bind fun p517 =>
some (p517.1, p517.2)
else
(cmpop .Eq a_kind (V.str ⟨#[112, 108, 117, 115]⟩) h).bind fun t518 =>
if t518 then
(idx a_args (V.int (0)) h).bind fun v519 =>
(idx a_args (V.int (0)) h).bind fun v520 =>
((G (d + 1)).fn f_law_many [a_words, v519, v520] h).bind fun p521 =>
some (p521.1, p521.2)
else
(cmpop .Eq a_kind (V.str ⟨#[111, 112, 116]⟩) h).bind fun t522 =>
if t522 then
(idx a_args (V.int (0)) (h ++ [[(V.str ⟨#[]⟩)]])).bind fun v523 =>
(binop .Add (V.ref h.length) v523 (h ++ [[(V.str ⟨#[]⟩)]])).bind fun p524 =>
some (p524.1, p524.2)
else
(cmpop .Eq a_kind (V.str ⟨#[99, 97, 116]⟩) h).bind fun t525 =>
if t525 then
(idx a_args (V.int (0)) h).bind fun v526 =>
(idx a_args (V.int (1)) h).bind fun v527 =>
((G (d + 1)).fn f_law_cat [a_words, v526, v527] h).bind fun p528 =>
some (p528.1, p528.2)
else
(idx a_args (V.int (0)) h).bind fun v529 =>
(idx a_args (V.int (1)) h).bind fun v530 =>
(binop .Add v529 v530 h).bind fun p531 =>
some (p531.1, p531.2)

theorem law_value_eq (d : Nat) (a_kind : V) (a_c : V) (a_args : V) (a_words : V) (h : Hp) : (G (d + 2)).fn f_law_value [a_kind, a_c, a_args, a_words] h = law_value_s d a_kind a_c a_args a_words h := (fn_eq ..).trans (by kernel_rfl)

noncomputable def law_put_s (d : Nat) (a_langs : V) (a_kind : V) (a_c : V) (a_words : V) (h : Hp) : Option (V × Hp) :=
let b := h.length
(callB b_len [a_langs] h).bind fun p532 =>
(dctLk [(⟨#[99, 104, 114]⟩, (V.int (0))), (⟨#[97, 110, 121]⟩, (V.int (0))), (⟨#[101, 112, 115]⟩, (V.int (0))), (⟨#[115, 116, 97, 114]⟩, (V.int (1))), (⟨#[112, 108, 117, 115]⟩, (V.int (1))), (⟨#[111, 112, 116]⟩, (V.int (1))), (⟨#[99, 97, 116]⟩, (V.int (2))), (⟨#[97, 108, 116]⟩, (V.int (2)))] a_kind).bind fun v533 =>
(binop .Sub p532.1 v533 p532.2).bind fun p534 =>
(slice a_langs V.none p534.1 V.none p534.2).bind fun p535 =>
(slice a_langs p534.1 V.none V.none p535.2).bind fun p536 =>
((G (d + 1)).fn f_law_value [a_kind, a_c, p536.1, a_words] p536.2).bind fun p537 =>
(binop .Add p535.1 (V.ref p537.2.length) (p537.2 ++ [[p537.1]])).bind fun p538 =>
some (p538.1, p538.2)

theorem law_put_eq (d : Nat) (a_langs : V) (a_kind : V) (a_c : V) (a_words : V) (h : Hp) : (G (d + 2)).fn f_law_put [a_langs, a_kind, a_c, a_words] h = law_put_s d a_langs a_kind a_c a_words h := (fn_eq ..).trans (by kernel_rfl)

noncomputable def law_b573 (d b : Nat) (ρ : Rho) (h : Hp) : Option (Fl × Rho × Hp) :=
(ρ n_langs).bind fun v568 =>
(ρ n_kind).bind fun v569 =>
(ρ n_c).bind fun v570 =>
(ρ n_words).bind fun v571 =>
((G (d + 1)).fn f_law_put [v568, v569, v570, v571] h).bind fun p572 =>
finN d b (upd ρ n_langs p572.1) p572.2

noncomputable def law_b578 (d b : Nat) (ρ : Rho) (h : Hp) : Option (Fl × Rho × Hp) :=
(ρ n_post).bind fun v574 =>
(ρ n_kind).bind fun v575 =>
(ρ n_c).bind fun v576 =>
(callM b m_append v574 [(V.tup [v575, v576])] h).bind fun p577 =>
if isNoneV p577.1 then
law_b573 d b ρ p577.2
else none

noncomputable def law_b582 (d b : Nat) (ρ : Rho) (h : Hp) : Option (Fl × Rho × Hp) :=
(ρ n_cell).bind fun v579 =>
(binop .Mod v579 (V.int (5)) h).bind fun p580 =>
(idx (V.str ⟨#[97, 97, 98, 98, 57]⟩) p580.1 p580.2).bind fun v581 =>
law_b578 d b (upd ρ n_c v581) p580.2

noncomputable def law_b585 (d b : Nat) (ρ : Rho) (h : Hp) : Option (Fl × Rho × Hp) :=
(ρ n_kind).bind fun v583 =>
(cmpop .Eq v583 (V.str ⟨#[99, 104, 114]⟩) h).bind fun t584 =>
if t584 then
law_b582 d b ρ h
else
law_b578 d b ρ h

noncomputable def law_b586 (d b : Nat) (ρ : Rho) (h : Hp) : Option (Fl × Rho × Hp) :=
law_b585 d b (upd ρ n_c (V.str ⟨#[]⟩)) h

noncomputable def law_b587 (d b : Nat) (ρ : Rho) (h : Hp) : Option (Fl × Rho × Hp) :=
law_b586 d b (upd ρ n_kind (V.str ⟨#[99, 104, 114]⟩)) h

noncomputable def law_b593 (d b : Nat) (ρ : Rho) (h : Hp) : Option (Fl × Rho × Hp) :=
(ρ n_langs).bind fun v588 =>
(callB b_len [v588] h).bind fun p589 =>
(ρ n_kind).bind fun v590 =>
(dctLk [(⟨#[99, 104, 114]⟩, (V.int (0))), (⟨#[97, 110, 121]⟩, (V.int (0))), (⟨#[101, 112, 115]⟩, (V.int (0))), (⟨#[115, 116, 97, 114]⟩, (V.int (1))), (⟨#[112, 108, 117, 115]⟩, (V.int (1))), (⟨#[111, 112, 116]⟩, (V.int (1))), (⟨#[99, 97, 116]⟩, (V.int (2))), (⟨#[97, 108, 116]⟩, (V.int (2)))] v590).bind fun v591 =>
(cmpop .Lt p589.1 v591 p589.2).bind fun t592 =>
if t592 then
law_b587 d b ρ p589.2
else
law_b586 d b ρ p589.2

noncomputable def law_b597 (d b : Nat) (ρ : Rho) (h : Hp) : Option (Fl × Rho × Hp) :=
(ρ n_cell).bind fun v594 =>
(binop .Mod v594 (V.int (8)) h).bind fun p595 =>
(idx (V.tup [(V.str ⟨#[99, 104, 114]⟩), (V.str ⟨#[97, 110, 121]⟩), (V.str ⟨#[101, 112, 115]⟩), (V.str ⟨#[115, 116, 97, 114]⟩), (V.str ⟨#[112, 108, 117, 115]⟩), (V.str ⟨#[111, 112, 116]⟩), (V.str ⟨#[99, 97, 116]⟩), (V.str ⟨#[97, 108, 116]⟩)]) p595.1 p595.2).bind fun v596 =>
law_b593 d b (upd ρ n_kind v596) p595.2

noncomputable def law_b601 (d b : Nat) (ρ : Rho) (h : Hp) : Option (Fl × Rho × Hp) :=
(ρ n_script).bind fun v598 =>
(ρ n_k).bind fun v599 =>
((G (d + 1)).fn f_law_cell [v598, v599] h).bind fun p600 =>
law_b597 d b (upd ρ n_cell p600.1) p600.2

noncomputable def law_l567 (d b : Nat) (x : V) (ρ : Rho) (h : Hp) : Option (Fl × Rho × Hp) :=
law_b601 d b (upd ρ n_k x) h

noncomputable def law_b613 (d b : Nat) (ρ : Rho) (h : Hp) : Option (Fl × Rho × Hp) :=
(ρ n_langs).bind fun v609 =>
(ρ n_kind).bind fun v610 =>
(ρ n_words).bind fun v611 =>
((G (d + 1)).fn f_law_put [v609, v610, (V.str ⟨#[]⟩), v611] h).bind fun p612 =>
finN d b (upd ρ n_langs p612.1) p612.2

noncomputable def law_b617 (d b : Nat) (ρ : Rho) (h : Hp) : Option (Fl × Rho × Hp) :=
(ρ n_post).bind fun v614 =>
(ρ n_kind).bind fun v615 =>
(callM b m_append v614 [(V.tup [v615, (V.str ⟨#[]⟩)])] h).bind fun p616 =>
if isNoneV p616.1 then
law_b613 d b ρ p616.2
else none

noncomputable def law_b625 (d b : Nat) (ρ : Rho) (h : Hp) : Option (Fl × Rho × Hp) :=
(ρ n_script).bind fun v618 =>
(ρ n_k).bind fun v619 =>
(binop .Add (V.int (9)) v619 h).bind fun p620 =>
((G (d + 1)).fn f_law_cell [v618, p620.1] p620.2).bind fun p621 =>
(binop .Mod p621.1 (V.int (2)) p621.2).bind fun p622 =>
(binop .Add (V.int (6)) p622.1 p622.2).bind fun p623 =>
(idx (V.tup [(V.str ⟨#[99, 104, 114]⟩), (V.str ⟨#[97, 110, 121]⟩), (V.str ⟨#[101, 112, 115]⟩), (V.str ⟨#[115, 116, 97, 114]⟩), (V.str ⟨#[112, 108, 117, 115]⟩), (V.str ⟨#[111, 112, 116]⟩), (V.str ⟨#[99, 97, 116]⟩), (V.str ⟨#[97, 108, 116]⟩)]) p623.1 p623.2).bind fun v624 =>
law_b617 d b (upd ρ n_kind v624) p623.2

noncomputable def law_l608 (d b : Nat) (x : V) (ρ : Rho) (h : Hp) : Option (Fl × Rho × Hp) :=
law_b625 d b (upd ρ n_k x) h

noncomputable def law_s (d : Nat) (a_script : V) (h : Hp) : Option (V × Hp) :=
let b := h.length
((G (d + 1)).fn f_law_cell [a_script, (V.int (0))] h).bind fun p539 =>
(binop .Mod p539.1 (V.int (4)) p539.2).bind fun p540 =>
(binop .Add (V.int (1)) p540.1 p540.2).bind fun p541 =>
(rangeArgs [(V.int (1)), p541.1]).bind fun r542 =>
(loopL none (rangeV r542.1 r542.2) (fun x543 h544 => 
((G (d + 1)).fn f_law_cell [a_script, x543] h544).bind fun p546 =>
(binop .Mod p546.1 (V.int (6)) p546.2).bind fun p547 =>
(idx (V.str ⟨#[97, 97, 98, 98, 57, 46]⟩) p547.1 p547.2).bind fun v548 =>
appendTo p541.2.length v548 p547.2) (rangeV r542.1 r542.2) (p541.2 ++ [[]])).bind fun h545 =>
(callM b m_join (V.str ⟨#[]⟩) [(V.ref p541.2.length)] h545).bind fun p549 =>
(callB b_len [p549.1] (p549.2 ++ [[(V.str ⟨#[]⟩)]])).bind fun p550 =>
(rangeArgs [p550.1]).bind fun r551 =>
(loopL none (rangeV r551.1 r551.2) (fun x552 h553 => 
(binop .Add x552 (V.int (1)) h553).bind fun p555 =>
(callB b_len [p549.1] p555.2).bind fun p556 =>
(binop .Add p556.1 (V.int (1)) p556.2).bind fun p557 =>
(rangeArgs [p555.1, p557.1]).bind fun r558 =>
loopL none (rangeV r558.1 r558.2) (fun x559 h560 => 
(slice p549.1 x552 x559 V.none h560).bind fun p561 =>
appendTo p550.2.length p561.1 p561.2) (rangeV r558.1 r558.2) p557.2) (rangeV r551.1 r551.2) (p550.2 ++ [[]])).bind fun h554 =>
(binop .Add (V.ref p549.2.length) (V.ref p550.2.length) h554).bind fun p562 =>
((G (d + 1)).fn f_law_cell [a_script, (V.int (4))] ((p562.2 ++ [[]]) ++ [[]])).bind fun p563 =>
(binop .Mod p563.1 (V.int (4)) p563.2).bind fun p564 =>
(binop .Add (V.int (6)) p564.1 p564.2).bind fun p565 =>
(rangeArgs [(V.int (5)), p565.1]).bind fun r566 =>
(loopS none (rangeV r566.1 r566.2) (law_l567 d b) (rangeV r566.1 r566.2) (upd (upd (upd (upd (fun x => List.lookup x (List.zip [n_script] [a_script]).reverse) n_text p549.1) n_words p562.1) n_post (V.ref p562.2.length)) n_langs (V.ref (p562.2 ++ [[]]).length)) p565.2).bind fun q602 =>
(match q602.1 with
| .next =>
(q602.2.1 n_langs).bind fun v604 =>
(callB b_len [v604] q602.2.2).bind fun p605 =>
(binop .Sub p605.1 (V.int (1)) p605.2).bind fun p606 =>
(rangeArgs [p606.1]).bind fun r607 =>
(loopS none (rangeV r607.1 r607.2) (law_l608 d b) (rangeV r607.1 r607.2) q602.2.1 p606.2).bind fun q626 =>
(match q626.1 with
| .next =>
(q626.2.1 n_text).bind fun v628 =>
(q626.2.1 n_langs).bind fun v629 =>
(idx v629 (V.int (0)) q626.2.2).bind fun v630 =>
(cmpop .In v628 v630 q626.2.2).bind fun t631 =>
(q626.2.1 n_post).bind fun v632 =>
(binop .Add v632 (V.ref q626.2.2.length) (q626.2.2 ++ [[]])).bind fun p633 =>
(q626.2.1 n_post).bind fun v634 =>
(q626.2.1 n_text).bind fun v635 =>
((G (d + 1)).fn f_law_the_backtracker_means_it [v634, v635] p633.2).bind fun p636 =>
(cmpop .IsNot p636.1 (V.bool true) p636.2).bind fun t637 =>
if t637 then
some ((V.bool false), p636.2)
else
(q626.2.1 n_post).bind fun v638 =>
(cmpop .NotEq v638 p633.1 p636.2).bind fun t639 =>
if t639 then
some ((V.bool false), p636.2)
else
(q626.2.1 n_post).bind fun v640 =>
(q626.2.1 n_text).bind fun v641 =>
((G (d + 1)).fn f_means [v640, v641] p636.2).bind fun p642 =>
(cmpop .NotEq p642.1 (V.bool t631) p642.2).bind fun t643 =>
if t643 then
some ((V.bool false), p642.2)
else
some ((V.bool true), p642.2)
| f627 =>
(match f627 with
| .ret v => some (v, q626.2.2)
| .next => some (V.none, q626.2.2)
| _ => none))
| f603 =>
(match f603 with
| .ret v => some (v, q602.2.2)
| .next => some (V.none, q602.2.2)
| _ => none))

theorem law_eq (d : Nat) (a_script : V) (h : Hp) : (G (d + 2)).fn f_law [a_script] h = law_s d a_script h := (fn_eq ..).trans (by kernel_rfl)
end Mine
end

section
set_option autoImplicit false
set_option maxRecDepth 100000
namespace Mine
open PySem

noncomputable def edgeV (e : Edge) : V := .tup [.str e.1, .int e.2]
noncomputable def rowV (es : List Edge) : List V := es.map edgeV
noncomputable def prV (p : Nat × Nat) : V := .tup [.int p.1, .int p.2]
noncomputable def stV (st : List (Nat × Nat)) : List V := (st.map prV).reverse
noncomputable def eV (n N : Nat) : List V := (List.range N).map fun u => V.ref (n + 2 + u)
/-- the heap with the edges, the stack, and a row for each state -/
noncomputable def th (h0 : Hp) (E : List (List Edge)) (st : List (Nat × Nat)) : Hp := h0 ++ (eV h0.length E.length :: stV st :: E.map rowV)
section
variable {h0 : Hp} {E : List (List Edge)} {st : List (Nat × Nat)} {b : Nat}
theorem th_len : (th h0 E st).length = h0.length + 2 + E.length := by simp [th]; lia
theorem th_e : (th h0 E st)[h0.length]? = some (eV h0.length E.length) := by simp [th]
theorem th_s : (th h0 E st)[h0.length + 1]? = some (stV st) := by simp [th]
theorem th_r (u : Nat) : (th h0 E st)[h0.length + 2 + u]? = (E[u]?).map rowV := by
  unfold th
  rw [List.getElem?_append_right (by lia), show h0.length + 2 + u - h0.length = u + 2 by lia]
  simp
theorem eV_at {n N u : Nat} (h : u < N) : (eV n N)[u]? = some (.ref (n + 2 + u)) := by simp [eV, h]
theorem th_idx {u : Nat} (h : u < E.length) : idx (.ref h0.length) (.int u) (th h0 E st) = some (.ref (h0.length + 2 + u)) := idx_ref th_e (by lia) (eV_at h)
theorem th_elen : callB b_len [.ref h0.length] (th h0 E st) = some (.int E.length, th h0 E st) := by rw [len_ref _ th_e]; simp [eV]
theorem set2 {h : Hp} {x y z : List V} {L : Hp} : (h ++ x :: y :: L).set (h.length + 1) z = h ++ x :: z :: L := by
  rw [show h.length + 1 = h.length + 1 + 0 from rfl, set_far]; rfl
theorem th_new (hb : b ≤ h0.length) (hE : E.length ≤ 100000) : callM b m_append (.ref h0.length) [.ref (th h0 E st).length] (th h0 E st ++ [[]]) = some (.none, th h0 (E ++ [[]]) st) := by
  rw [append_ref _ _ _ (get_pre _ th_e) hb (by simp [eV]; lia)]
  congr 2
  rw [th_len]
  unfold th
  rw [List.append_assoc, List.cons_append, set_mid]
  congr 1
  simp only [List.length_append, List.length_cons, List.length_nil, List.map_append, List.map_cons, List.map_nil]
  congr 1
  simp [eV, List.range_succ]
theorem th_add {u : Nat} (e : Edge) (hb : b ≤ h0.length) (hu : u < E.length) (hl : ∀ es ∈ E, es.length ≤ 1000) : callM b m_append (.ref (h0.length + 2 + u)) [edgeV e] (th h0 E st) = some (.none, th h0 (addE E u e) st) := by
  have he : E[u]? = some E[u] := List.getElem?_eq_getElem hu
  have hr : (th h0 E st)[h0.length + 2 + u]? = some (rowV E[u]) := by rw [th_r, he]; rfl
  rw [append_ref _ _ _ hr (by lia) (by have := hl E[u] (List.getElem_mem hu); simp [rowV]; lia)]
  congr 2
  unfold th addE
  rw [List.length_set, show h0.length + 2 + u = h0.length + 1 + (u + 1) by lia, set_far, List.set_cons_succ, he, List.map_set]
  simp [rowV]
theorem th_stk (st' : List (Nat × Nat)) : (th h0 E st).set (h0.length + 1) (stV st') = th h0 E st' := set2
theorem stV_cons (p : Nat × Nat) : stV (p :: st) = stV st ++ [prV p] := by simp [stV]
theorem stV_cons2 (p q : Nat × Nat) : stV (p :: q :: st) = stV st ++ [prV q, prV p] := by simp [stV]
theorem th_top (p : Nat × Nat) : idx (.ref (h0.length + 1)) (.int (-1)) (th h0 E (p :: st)) = some (prV p) := idx_m1 (xs := stV st) (by rw [th_s, stV_cons])
theorem th_sec (p q : Nat × Nat) : idx (.ref (h0.length + 1)) (.int (-2)) (th h0 E (p :: q :: st)) = some (prV q) := idx_m2 (xs := stV st) (v := prV p) (by rw [th_s, stV_cons2])
theorem th_del (p : Nat × Nat) (hb : b ≤ h0.length) : delIdx b (.ref (h0.length + 1)) (.int (-1)) (th h0 E (p :: st)) = some (th h0 E st) := by
  rw [delIdx_m1 (xs := stV st) (v := prV p) (by rw [th_s, stV_cons]) (by lia), th_stk]
theorem th_put (p q : Nat × Nat) (hb : b ≤ h0.length) : setIdx b (.ref (h0.length + 1)) (.int (-1)) (prV q) (th h0 E (p :: st)) = some (th h0 E (q :: st)) := by
  rw [setIdx_m1 (xs := stV st) (v := prV p) (by rw [th_s, stV_cons]) (by lia), ← stV_cons, th_stk]
theorem th_push (p : Nat × Nat) (hb : b ≤ h0.length) (hl : st.length ≤ 100000) : callM b m_append (.ref (h0.length + 1)) [prV p] (th h0 E st) = some (.none, th h0 E (p :: st)) := by
  rw [append_ref _ _ _ th_s (by lia) (by simp [stV]; lia), ← stV_cons, th_stk]
theorem pr_0 (p : Nat × Nat) (h : Hp) : idx (prV p) (.int 0) h = some (.int p.1) := rfl
theorem pr_1 (p : Nat × Nat) (h : Hp) : idx (prV p) (.int 1) h = some (.int p.2) := rfl
end

theorem addE_small {E : List (List Edge)} {u : Nat} {e : Edge} {n : Nat} (h : ∀ es ∈ E, es.length ≤ n) : ∀ es ∈ addE E u e, es.length ≤ n + 1 := by
  intro es hes
  unfold addE at hes
  rcases List.mem_or_eq_of_mem_set hes with q | q
  · have := h es q; lia
  · subst q
    simp only [List.length_append, List.length_cons, List.length_nil]
    cases hu : E[u]? with
    | none => simp
    | some x => have := h x (List.mem_of_getElem? hu); simp; lia
theorem two_small {E : List (List Edge)} {n : Nat} (h : ∀ es ∈ E, es.length ≤ n) : ∀ es ∈ two E, es.length ≤ n := by
  intro es hes
  simp only [two, List.mem_append, List.mem_singleton] at hes
  rcases hes with (q | rfl) | rfl
  · exact h es q
  · simp
  · simp

structure ThI (h0 : Hp) (T : TS) (n : Nat) (ρ : Rho) (h : Hp) : Prop where
  edges : ρ n_edges = some (.ref h0.length)
  stack : ρ n_stack = some (.ref (h0.length + 1))
  heap : h = th h0 T.1 T.2
  len : T.1.length ≤ 2 * n
  slen : T.2.length ≤ n
  small : ∀ es ∈ T.1, es.length ≤ 4 * n
  lt : ∀ p ∈ T.2, p.1 < T.1.length ∧ p.2 < T.1.length

theorem isN : isNoneV .none = true := rfl
theorem um1 : unop .USub (.int 1) = some (.int (-1)) := rfl
theorem um2 : unop .USub (.int 2) = some (.int (-2)) := rfl
theorem k_idx0 (k : K8) (h : Hp) : idx k.tup (.int 0) h = some (.str k.kind) := rfl
theorem k_idx1 (k : K8) (h : Hp) : idx k.tup (.int 1) h = some (.str k.sign) := rfl
end Mine
end

section
set_option autoImplicit false
set_option maxRecDepth 100000
namespace Mine
open PySem

noncomputable def K8.isCat : K8 → Bool | .cat => true | _ => false
noncomputable def K8.isLeaf : K8 → Bool | .chr _ => true | .any => true | .eps => true | _ => false
noncomputable def K8.isAny : K8 → Bool | .any => true | _ => false
noncomputable def K8.isAlt : K8 → Bool | .alt => true | _ => false
noncomputable def K8.isPlus : K8 → Bool | .plus => true | _ => false
noncomputable def K8.isOpt : K8 → Bool | .opt => true | _ => false
section
variable (k : K8) (h : Hp)
theorem q_cat : cmpop .Eq (.str k.kind) (V.str ⟨#[99, 97, 116]⟩) h = some k.isCat := by cases k <;> kernel_rfl
theorem q_leaf : cmpop .In (.str k.kind) (V.tup [(V.str ⟨#[99, 104, 114]⟩), (V.str ⟨#[97, 110, 121]⟩), (V.str ⟨#[101, 112, 115]⟩)]) h = some k.isLeaf := by cases k <;> kernel_rfl
theorem q_any : cmpop .Eq (.str k.kind) (V.str ⟨#[97, 110, 121]⟩) h = some k.isAny := by cases k <;> kernel_rfl
theorem q_alt : cmpop .Eq (.str k.kind) (V.str ⟨#[97, 108, 116]⟩) h = some k.isAlt := by cases k <;> kernel_rfl
theorem q_plus : cmpop .NotEq (.str k.kind) (V.str ⟨#[112, 108, 117, 115]⟩) h = some (!k.isPlus) := by cases k <;> kernel_rfl
theorem q_opt : cmpop .NotEq (.str k.kind) (V.str ⟨#[111, 112, 116]⟩) h = some (!k.isOpt) := by cases k <;> kernel_rfl
end
theorem un {ρ : Rho} {x y : Str} {v : V} (h : y ≠ x) : upd ρ x v y = ρ y := if_neg h
theorem us {ρ : Rho} {x : Str} {v : V} : upd ρ x v x = some v := if_pos rfl
/-- the two lists of the making -/
structure E2 (h0 : Hp) (ρ : Rho) : Prop where
  e : ρ n_edges = some (.ref h0.length)
  q : ρ n_stack = some (.ref (h0.length + 1))
section
variable {h0 : Hp} {E : List (List Edge)} {st : List (Nat × Nat)} {b d : Nat} {ρ : Rho}
theorem E2.up {x : Str} {v : V} (I : E2 h0 ρ) (h1 : n_edges ≠ x) (h2 : n_stack ≠ x) : E2 h0 (upd ρ x v) := ⟨(un h1).trans I.e, (un h2).trans I.q⟩
theorem th_add' {u : Nat} (l : Str) (v : Nat) (hb : b ≤ h0.length) (hu : u < E.length) (hl : ∀ es ∈ E, es.length ≤ 1000) : callM b m_append (.ref (h0.length + 2 + u)) [.tup [.str l, .int v]] (th h0 E st) = some (.none, th h0 (addE E u (l, v)) st) := th_add (l, v) hb hu hl
theorem th_put' (p : Nat × Nat) (x y : Nat) (hb : b ≤ h0.length) : setIdx b (.ref (h0.length + 1)) (.int (-1)) (.tup [.int x, .int y]) (th h0 E (p :: st)) = some (th h0 E ((x, y) :: st)) := th_put p (x, y) hb
theorem th_push' (x y : Nat) (hb : b ≤ h0.length) (hl : st.length ≤ 100000) : callM b m_append (.ref (h0.length + 1)) [.tup [.int x, .int y]] (th h0 E st) = some (.none, th h0 E ((x, y) :: st)) := th_push (x, y) hb hl
theorem cast1 (n : Nat) : ((n : Int) + 1) = ((n + 1 : Nat) : Int) := rfl
theorem th_two' (hb : b ≤ h0.length) (hE : E.length ≤ 10000) : callM b m_append (.ref h0.length) [.ref (th h0 (E ++ [[]]) st).length] (th h0 (E ++ [[]]) st ++ [[]]) = some (.none, th h0 (two E) st) := th_new hb (by simp; lia)

/-! the statements, one by one -/
variable {s a : Nat} {p l r : Nat × Nat} {k : K8}
theorem B207 (I : E2 h0 ρ) (hs : ρ n_s = some (.int s)) (ha : ρ n_a = some (.int a)) (hb : b ≤ h0.length) (hl : st.length ≤ 100000) : thompson_b207 d b ρ (th h0 E st) = some (.next, ρ, th h0 E ((s, a) :: st)) := by
  unfold thompson_b207; simp (implicitDefEqProofs := false) only [I.q, hs, ha, Option.bind_some, th_push' s a hb hl, isN, if_true, finN]
theorem B214 {lb : Str} (I : E2 h0 ρ) (hs : ρ n_s = some (.int s)) (ha : ρ n_a = some (.int a)) (hlb : ρ n_label = some (.str lb)) (hb : b ≤ h0.length) (hu : s < E.length) (hsm : ∀ es ∈ E, es.length ≤ 1000) : thompson_b214 d b ρ (th h0 E st) = thompson_b207 d b ρ (th h0 (addE E s (lb, a)) st) := by
  unfold thompson_b214; simp (implicitDefEqProofs := false) only [I.e, hs, ha, hlb, Option.bind_some, th_idx hu, th_add' lb a hb hu hsm, isN, if_true]
theorem B227 (I : E2 h0 ρ) (hs : ρ n_s = some (.int s)) (ha : ρ n_a = some (.int a)) (hb : b ≤ h0.length) : thompson_b227 d b ρ (th h0 E (p :: st)) = some (.next, ρ, th h0 E ((s, a) :: st)) := by
  unfold thompson_b227; simp (implicitDefEqProofs := false) only [I.q, hs, ha, Option.bind_some, um1, th_put' p s a hb, finN]
theorem B234 (I : E2 h0 ρ) (hr : ρ n_right = some (prV r)) (ha : ρ n_a = some (.int a)) (hb : b ≤ h0.length) (hu : r.2 < E.length) (hsm : ∀ es ∈ E, es.length ≤ 1000) : thompson_b234 d b ρ (th h0 E st) = thompson_b227 d b ρ (th h0 (addE E r.2 (sE, a)) st) := by
  unfold thompson_b234; simp (implicitDefEqProofs := false) only [I.e, hr, ha, Option.bind_some, pr_1, th_idx hu, show (V.str ⟨#[]⟩) = V.str sE from rfl, th_add' sE a hb hu hsm, isN, if_true]
theorem B241 (I : E2 h0 ρ) (hr : ρ n_left = some (prV r)) (ha : ρ n_a = some (.int a)) (hb : b ≤ h0.length) (hu : r.2 < E.length) (hsm : ∀ es ∈ E, es.length ≤ 1000) : thompson_b241 d b ρ (th h0 E st) = thompson_b234 d b ρ (th h0 (addE E r.2 (sE, a)) st) := by
  unfold thompson_b241; simp (implicitDefEqProofs := false) only [I.e, hr, ha, Option.bind_some, pr_1, th_idx hu, show (V.str ⟨#[]⟩) = V.str sE from rfl, th_add' sE a hb hu hsm, isN, if_true]
theorem B248 (I : E2 h0 ρ) (hr : ρ n_right = some (prV r)) (hs : ρ n_s = some (.int s)) (hb : b ≤ h0.length) (hu : s < E.length) (hsm : ∀ es ∈ E, es.length ≤ 1000) : thompson_b248 d b ρ (th h0 E st) = thompson_b241 d b ρ (th h0 (addE E s (sE, r.1)) st) := by
  unfold thompson_b248; simp (implicitDefEqProofs := false) only [I.e, hr, hs, Option.bind_some, pr_0, th_idx hu, show (V.str ⟨#[]⟩) = V.str sE from rfl, th_add' sE r.1 hb hu hsm, isN, if_true]
theorem B255 (I : E2 h0 ρ) (hr : ρ n_left = some (prV r)) (hs : ρ n_s = some (.int s)) (hb : b ≤ h0.length) (hu : s < E.length) (hsm : ∀ es ∈ E, es.length ≤ 1000) : thompson_b255 d b ρ (th h0 E st) = thompson_b248 d b ρ (th h0 (addE E s (sE, r.1)) st) := by
  unfold thompson_b255; simp (implicitDefEqProofs := false) only [I.e, hr, hs, Option.bind_some, pr_0, th_idx hu, show (V.str ⟨#[]⟩) = V.str sE from rfl, th_add' sE r.1 hb hu hsm, isN, if_true]
theorem B267 (I : E2 h0 ρ) (hb : b ≤ h0.length) : thompson_b267 d b ρ (th h0 E (r :: l :: st)) = thompson_b255 d b (upd (upd ρ n_left (prV l)) n_right (prV r)) (th h0 E (l :: st)) := by
  have I1 : E2 h0 (upd ρ n_left (prV l)) := I.up (by decide) (by decide)
  have I2 : E2 h0 (upd (upd ρ n_left (prV l)) n_right (prV r)) := I1.up (by decide) (by decide)
  unfold thompson_b267; simp (implicitDefEqProofs := false) only [I.q, Option.bind_some, um2, th_sec]
  unfold thompson_b263; simp (implicitDefEqProofs := false) only [I1.q, Option.bind_some, um1, th_top]
  unfold thompson_b259; simp (implicitDefEqProofs := false) only [I2.q, Option.bind_some, um1, th_del r hb]
theorem B273 (I : E2 h0 ρ) (hs : ρ n_s = some (.int s)) (ha : ρ n_a = some (.int a)) (hb : b ≤ h0.length) : thompson_b273 d b ρ (th h0 E (p :: st)) = some (.next, ρ, th h0 E ((s, a) :: st)) := by
  unfold thompson_b273; simp (implicitDefEqProofs := false) only [I.q, hs, ha, Option.bind_some, um1, th_put' p s a hb, finN]
theorem B280 (I : E2 h0 ρ) (hr : ρ n_inner = some (prV r)) (ha : ρ n_a = some (.int a)) (hb : b ≤ h0.length) (hu : r.2 < E.length) (hsm : ∀ es ∈ E, es.length ≤ 1000) : thompson_b280 d b ρ (th h0 E st) = thompson_b273 d b ρ (th h0 (addE E r.2 (sE, a)) st) := by
  unfold thompson_b280; simp (implicitDefEqProofs := false) only [I.e, hr, ha, Option.bind_some, pr_1, th_idx hu, show (V.str ⟨#[]⟩) = V.str sE from rfl, th_add' sE a hb hu hsm, isN, if_true]
theorem B288 (I : E2 h0 ρ) (hr : ρ n_inner = some (prV r)) (hb : b ≤ h0.length) (hu : r.2 < E.length) (hsm : ∀ es ∈ E, es.length ≤ 1000) : thompson_b288 d b ρ (th h0 E st) = thompson_b280 d b ρ (th h0 (addE E r.2 (sE, r.1)) st) := by
  unfold thompson_b288; simp (implicitDefEqProofs := false) only [I.e, hr, Option.bind_some, pr_0, pr_1, th_idx hu, show (V.str ⟨#[]⟩) = V.str sE from rfl, th_add' sE r.1 hb hu hsm, isN, if_true]
theorem B291 (hk : ρ n_kind = some (.str k.kind)) : thompson_b291 d b ρ (th h0 E st) = if k.isOpt then thompson_b280 d b ρ (th h0 E st) else thompson_b288 d b ρ (th h0 E st) := by
  unfold thompson_b291; simp (implicitDefEqProofs := false) only [hk, Option.bind_some, q_opt]; cases k.isOpt <;> rfl
theorem B297 (I : E2 h0 ρ) (hs : ρ n_s = some (.int s)) (ha : ρ n_a = some (.int a)) (hb : b ≤ h0.length) (hu : s < E.length) (hsm : ∀ es ∈ E, es.length ≤ 1000) : thompson_b297 d b ρ (th h0 E st) = thompson_b291 d b ρ (th h0 (addE E s (sE, a)) st) := by
  unfold thompson_b297; simp (implicitDefEqProofs := false) only [I.e, hs, ha, Option.bind_some, th_idx hu, show (V.str ⟨#[]⟩) = V.str sE from rfl, th_add' sE a hb hu hsm, isN, if_true]
theorem B300 (hk : ρ n_kind = some (.str k.kind)) : thompson_b300 d b ρ (th h0 E st) = if k.isPlus then thompson_b291 d b ρ (th h0 E st) else thompson_b297 d b ρ (th h0 E st) := by
  unfold thompson_b300; simp (implicitDefEqProofs := false) only [hk, Option.bind_some, q_plus]; cases k.isPlus <;> rfl
theorem B311 (I : E2 h0 ρ) (hs : ρ n_s = some (.int s)) (hb : b ≤ h0.length) (hu : s < E.length) (hsm : ∀ es ∈ E, es.length ≤ 1000) : thompson_b311 d b ρ (th h0 E (r :: st)) = thompson_b300 d b (upd ρ n_inner (prV r)) (th h0 (addE E s (sE, r.1)) (r :: st)) := by
  have I1 : E2 h0 (upd ρ n_inner (prV r)) := I.up (by decide) (by decide)
  have hs1 : upd ρ n_inner (prV r) n_s = some (.int s) := (un (by decide)).trans hs
  unfold thompson_b311; simp (implicitDefEqProofs := false) only [I.q, Option.bind_some, um1, th_top]
  unfold thompson_b307; simp (implicitDefEqProofs := false) only [I1.e, hs1, us, Option.bind_some, pr_0, th_idx hu, show (V.str ⟨#[]⟩) = V.str sE from rfl, th_add' sE r.1 hb hu hsm, isN, if_true]
theorem B221 (hi : ρ n_item = some k.tup) (hk : ρ n_kind = some (.str k.kind)) : ∃ ρ', thompson_b221 d b ρ (th h0 E st) = thompson_b214 d b ρ' (th h0 E st) ∧ ρ' n_label = some (.str (if k.isAny then sDot else k.sign)) ∧ ∀ y, y ≠ n_label → ρ' y = ρ y := by
  unfold thompson_b221; simp (implicitDefEqProofs := false) only [hi, Option.bind_some, k_idx1]
  unfold thompson_b218
  have h1 : upd ρ n_label (.str k.sign) n_kind = some (.str k.kind) := (un (by decide)).trans hk
  simp (implicitDefEqProofs := false) only [h1, Option.bind_some, q_any]
  cases k.isAny
  · exact ⟨_, rfl, us, fun y hy => un hy⟩
  · exact ⟨_, rfl, us, fun y hy => (un hy).trans (un hy)⟩
/-- the head of a turn that makes two states -/
theorem B329 (I : E2 h0 ρ) (hb : b ≤ h0.length) (hE : E.length ≤ 10000) : thompson_b329 d b ρ (th h0 E st) = thompson_b317 d b (upd (upd ρ n_s (.int E.length)) n_a (.int ((E.length + 1 : Nat) : Int))) (th h0 (two E) st) := by
  have I1 : E2 h0 (upd ρ n_s (.int E.length)) := I.up (by decide) (by decide)
  have I2 : E2 h0 (upd (upd ρ n_s (.int E.length)) n_a (.int ((E.length + 1 : Nat) : Int))) := I1.up (by decide) (by decide)
  unfold thompson_b329; simp (implicitDefEqProofs := false) only [I.e, Option.bind_some, th_elen]
  unfold thompson_b326; simp (implicitDefEqProofs := false) only [us, Option.bind_some, bi_add, cast1]
  unfold thompson_b323; simp (implicitDefEqProofs := false) only [I2.e, Option.bind_some, th_new hb (show E.length ≤ 100000 by lia), isN, if_true]
  unfold thompson_b320; simp (implicitDefEqProofs := false) only [I2.e, Option.bind_some, th_two' hb hE, isN, if_true]
theorem B317 (hk : ρ n_kind = some (.str k.kind)) {h : Hp} : thompson_b317 d b ρ h = if k.isLeaf then thompson_b221 d b ρ h else if k.isAlt then thompson_b267 d b ρ h else thompson_b311 d b ρ h := by
  unfold thompson_b317 thompson_b314; simp (implicitDefEqProofs := false) only [hk, Option.bind_some, q_leaf, q_alt]
theorem B364 (x : K8) {h : Hp} : thompson_l202 d b x.tup ρ h = if x.isCat then thompson_b358 d b (upd (upd ρ n_item x.tup) n_kind (.str x.kind)) h else thompson_b329 d b (upd (upd ρ n_item x.tup) n_kind (.str x.kind)) h := by
  unfold thompson_l202 thompson_b364 thompson_b361; simp (implicitDefEqProofs := false) only [us, Option.bind_some, k_idx0, q_cat]
theorem B358 (I : E2 h0 ρ) (hb : b ≤ h0.length) (hu : l.2 < E.length) (hsm : ∀ es ∈ E, es.length ≤ 1000) : thompson_b358 d b ρ (th h0 E (r :: l :: st)) = some (.cont, upd (upd ρ n_left (prV l)) n_right (prV r), th h0 (addE E l.2 (sE, r.1)) ((l.1, r.2) :: st)) := by
  have I1 : E2 h0 (upd ρ n_left (prV l)) := I.up (by decide) (by decide)
  have I2 : E2 h0 (upd (upd ρ n_left (prV l)) n_right (prV r)) := I1.up (by decide) (by decide)
  have hl : upd (upd ρ n_left (prV l)) n_right (prV r) n_left = some (prV l) := (un (by decide)).trans us
  unfold thompson_b358; simp (implicitDefEqProofs := false) only [I.q, Option.bind_some, um2, th_sec]
  unfold thompson_b354; simp (implicitDefEqProofs := false) only [I1.q, Option.bind_some, um1, th_top]
  unfold thompson_b350; simp (implicitDefEqProofs := false) only [I2.q, Option.bind_some, um1, th_del r hb]
  unfold thompson_b346; simp (implicitDefEqProofs := false) only [I2.e, hl, us, Option.bind_some, pr_0, pr_1, th_idx hu, show (V.str ⟨#[]⟩) = V.str sE from rfl, th_add' sE r.1 hb hu hsm, isN, if_true]
  unfold thompson_b338; simp (implicitDefEqProofs := false) only [I2.q, hl, us, Option.bind_some, pr_0, pr_1, um1, th_put' l l.1 r.2 hb, thompson_b330]
end
end Mine
end

section
set_option autoImplicit false
set_option maxRecDepth 100000
namespace Mine
open PySem
section
variable {h0 : Hp} {E : List (List Edge)} {st : List (Nat × Nat)} {b n : Nat} {ρ : Rho}
/-- what the names stand for behind the head of a turn -/
structure E5 (h0 : Hp) (k : K8) (m : Nat) (ρ : Rho) : Prop where
  two : E2 h0 ρ
  item : ρ n_item = some k.tup
  kind : ρ n_kind = some (.str k.kind)
  s : ρ n_s = some (.int m)
  a : ρ n_a = some (.int ((m + 1 : Nat) : Int))
theorem E5.up {h0 : Hp} {k : K8} {s : Nat} {ρ : Rho} {x : Str} {v : V} (I : E5 h0 k s ρ) (h1 : n_edges ≠ x) (h2 : n_stack ≠ x) (h3 : n_item ≠ x) (h4 : n_kind ≠ x) (h5 : n_s ≠ x) (h6 : n_a ≠ x) : E5 h0 k s (upd ρ x v) :=
  ⟨I.two.up h1 h2, (un h3).trans I.item, (un h4).trans I.kind, (un h5).trans I.s, (un h6).trans I.a⟩
theorem up1000 {m : Nat} {E : List (List Edge)} (hm : m ≤ 1000) (h : ∀ es ∈ E, es.length ≤ m) : ∀ es ∈ E, es.length ≤ 1000 := fun es hes => Nat.le_trans (h es hes) hm
theorem two_lt (E : List (List Edge)) : E.length < (two E).length := by rw [two_len]; exact Nat.lt_add_of_pos_right (by decide)
theorem th_head {E : List (List Edge)} (d : Nat) (k : K8) (hk : k.isCat = false) (hb : b ≤ h0.length) (hE : E.length ≤ 10000) (I : E2 h0 ρ) : ∃ ρ', thompson_l202 d b k.tup ρ (th h0 E st) = thompson_b317 d b ρ' (th h0 (two E) st) ∧ E5 h0 k E.length ρ' := by
  have I1 : E2 h0 (upd (upd ρ n_item k.tup) n_kind (.str k.kind)) := (I.up (by decide) (by decide)).up (by decide) (by decide)
  rw [B364, hk]
  refine ⟨_, B329 I1 hb hE, (I1.up (by decide) (by decide)).up (by decide) (by decide), ?_, ?_, (un (by decide)).trans us, us⟩
  · exact (un (by decide)).trans ((un (by decide)).trans ((un (by decide)).trans us))
  · exact (un (by decide)).trans ((un (by decide)).trans us)
theorem th_leaf (d : Nat) {k : K8} {l : Str} (hk : k.isCat = false) (hl : k.isLeaf = true) (hs : (if k.isAny then sDot else k.sign) = l) (hb : b ≤ h0.length) (hn : n ≤ 100) (I : ThI h0 (E, st) n ρ (th h0 E st)) :
    ∃ ρ', thompson_l202 d b k.tup ρ (th h0 E st) = some (.next, ρ', th h0 (leaf E st l).1 (leaf E st l).2) ∧ ρ' n_edges = some (.ref h0.length) ∧ ρ' n_stack = some (.ref (h0.length + 1)) := by
  have i1 : E.length ≤ 2 * n := I.len
  have i2 : st.length ≤ n := I.slen
  have small : ∀ es ∈ two E, es.length ≤ 1000 := two_small fun es h => by have := I.small es h; lia
  obtain ⟨ρ1, e1, J⟩ := th_head (E := E) (st := st) d k hk hb (by lia) ⟨I.edges, I.stack⟩
  obtain ⟨ρ2, e2, lb, fr⟩ := B221 (d := d) (b := b) (h0 := h0) (E := two E) (st := st) J.item J.kind
  rw [hs] at lb
  have J2 : E2 h0 ρ2 := ⟨(fr _ (by decide)).trans J.two.e, (fr _ (by decide)).trans J.two.q⟩
  have js := (fr n_s (by decide)).trans J.s
  have ja := (fr n_a (by decide)).trans J.a
  rw [e1, B317 J.kind, hl, if_pos rfl, e2, B214 J2 js ja lb hb (two_lt E) small, B207 J2 js ja hb (by lia)]
  exact ⟨ρ2, rfl, J2.e, J2.q⟩
theorem th_cat (d : Nat) {r l : Nat × Nat} (hb : b ≤ h0.length) (hn : n ≤ 100) (I : ThI h0 (E, r :: l :: st) n ρ (th h0 E (r :: l :: st))) :
    ∃ ρ', thompson_l202 d b K8.cat.tup ρ (th h0 E (r :: l :: st)) = some (.cont, ρ', th h0 (addE E l.2 (sE, r.1)) ((l.1, r.2) :: st)) ∧ ρ' n_edges = some (.ref h0.length) ∧ ρ' n_stack = some (.ref (h0.length + 1)) := by
  have hl := (I.lt l (by simp)).2
  have small : ∀ es ∈ E, es.length ≤ 1000 := fun es h => by have := I.small es h; lia
  have I1 : E2 h0 (upd (upd ρ n_item K8.cat.tup) n_kind (.str K8.cat.kind)) := ((⟨I.edges, I.stack⟩ : E2 h0 ρ).up (by decide) (by decide)).up (by decide) (by decide)
  have I2 : E2 h0 (upd (upd (upd (upd ρ n_item K8.cat.tup) n_kind (.str K8.cat.kind)) n_left (prV l)) n_right (prV r)) := (I1.up (by decide) (by decide)).up (by decide) (by decide)
  exact ⟨_, (B364 .cat).trans (B358 I1 hb hl small), I2.e, I2.q⟩
theorem th_alt (d : Nat) {r l : Nat × Nat} (hb : b ≤ h0.length) (hn : n ≤ 100) (I : ThI h0 (E, r :: l :: st) n ρ (th h0 E (r :: l :: st))) :
    ∃ ρ', thompson_l202 d b K8.alt.tup ρ (th h0 E (r :: l :: st)) = some (.next, ρ', th h0 (addE (addE (addE (addE (two E) E.length (sE, l.1)) E.length (sE, r.1)) l.2 (sE, E.length + 1)) r.2 (sE, E.length + 1)) ((E.length, E.length + 1) :: st)) ∧ ρ' n_edges = some (.ref h0.length) ∧ ρ' n_stack = some (.ref (h0.length + 1)) := by
  have i1 : E.length ≤ 2 * n := I.len
  have hl : l.2 < E.length := (I.lt l (by simp)).2
  have hr : r.2 < E.length := (I.lt r (by simp)).2
  have s0 : ∀ es ∈ two E, es.length ≤ 400 := two_small fun es h => by have := I.small es h; lia
  have s1 := addE_small (u := E.length) (e := (sE, l.1)) s0
  have s2 := addE_small (u := E.length) (e := (sE, r.1)) s1
  have s3 := addE_small (u := l.2) (e := (sE, E.length + 1)) s2
  obtain ⟨ρ1, e1, J⟩ := th_head (E := E) (st := r :: l :: st) d .alt rfl hb (by lia) ⟨I.edges, I.stack⟩
  have J2 : E5 h0 .alt E.length (upd (upd ρ1 n_left (prV l)) n_right (prV r)) := (J.up (by decide) (by decide) (by decide) (by decide) (by decide) (by decide)).up (by decide) (by decide) (by decide) (by decide) (by decide) (by decide)
  have jl : upd (upd ρ1 n_left (prV l)) n_right (prV r) n_left = some (prV l) := (un (by decide)).trans us
  have l0 := two_len E
  have l1 : (addE (two E) E.length (sE, l.1)).length = E.length + 2 := (addE_len ..).trans l0
  have l2 : (addE (addE (two E) E.length (sE, l.1)) E.length (sE, r.1)).length = E.length + 2 := (addE_len ..).trans l1
  have l3 : (addE (addE (addE (two E) E.length (sE, l.1)) E.length (sE, r.1)) l.2 (sE, E.length + 1)).length = E.length + 2 := (addE_len ..).trans l2
  refine ⟨_, e1.trans ((B317 J.kind).trans ((B267 J.two hb).trans ((B255 J2.two jl J2.s hb (two_lt E) (up1000 (by decide) s0)).trans ((B248 J2.two us J2.s hb (by rw [l1]; lia) (up1000 (by decide) s1)).trans ((B241 J2.two jl J2.a hb (by rw [l2]; lia) (up1000 (by decide) s2)).trans ((B234 J2.two us J2.a hb (by rw [l3]; lia) (up1000 (by decide) s3)).trans (B227 J2.two J2.s J2.a hb))))))), J2.two.e, J2.two.q⟩
theorem th_wrap (d : Nat) {k : K8} {x : Nat × Nat} (k1 : k.isCat = false) (k2 : k.isLeaf = false) (k3 : k.isAlt = false) (hb : b ≤ h0.length) (hn : n ≤ 100) (I : ThI h0 (E, x :: st) n ρ (th h0 E (x :: st))) :
    ∃ ρ', thompson_l202 d b k.tup ρ (th h0 E (x :: st)) = some (.next, ρ', th h0 (wrap k.isPlus k.isOpt E x) ((E.length, E.length + 1) :: st)) ∧ ρ' n_edges = some (.ref h0.length) ∧ ρ' n_stack = some (.ref (h0.length + 1)) := by
  have i1 : E.length ≤ 2 * n := I.len
  have hx : x.2 < E.length := (I.lt x (by simp)).2
  have s0 : ∀ es ∈ two E, es.length ≤ 400 := two_small fun es h => by have := I.small es h; lia
  have s1 := addE_small (u := E.length) (e := (sE, x.1)) s0
  obtain ⟨ρ1, e1, J⟩ := th_head (E := E) (st := x :: st) d k k1 hb (by lia) ⟨I.edges, I.stack⟩
  have J2 : E5 h0 k E.length (upd ρ1 n_inner (prV x)) := J.up (by decide) (by decide) (by decide) (by decide) (by decide) (by decide)
  have ji : upd ρ1 n_inner (prV x) n_inner = some (prV x) := us
  have l0 := two_len E
  have e2 : thompson_l202 d b k.tup ρ (th h0 E (x :: st)) = thompson_b300 d b (upd ρ1 n_inner (prV x)) (th h0 (addE (two E) E.length (sE, x.1)) (x :: st)) := by
    rw [e1, B317 J.kind, k2, k3]
    exact B311 J.two J.s hb (two_lt E) (up1000 (by decide) s0)
  generalize hρ : upd ρ1 n_inner (prV x) = ρ2 at J2 ji e2
  refine ⟨ρ2, e2.trans ?_, J2.two.e, J2.two.q⟩
  have l1 : (addE (two E) E.length (sE, x.1)).length = E.length + 2 := (addE_len ..).trans l0
  unfold wrap
  generalize addE (two E) E.length (sE, x.1) = E1 at s1 l1
  dsimp only
  rw [B300 J2.kind]
  have mid : ∀ {E2 : List (List Edge)}, E2.length = E.length + 2 → (∀ es ∈ E2, es.length ≤ 402) → thompson_b291 d b ρ2 (th h0 E2 (x :: st)) = some (.next, ρ2, th h0 (addE (if k.isOpt then E2 else addE E2 x.2 (sE, x.1)) x.2 (sE, E.length + 1)) ((E.length, E.length + 1) :: st)) := fun {E2} l2 s2 => by
    rw [B291 J2.kind]
    have s3 := addE_small (u := x.2) (e := (sE, x.1)) s2
    have l3 : (addE E2 x.2 (sE, x.1)).length = E.length + 2 := (addE_len ..).trans l2
    cases k.isOpt
    · exact (B288 J2.two ji hb (by rw [l2]; lia) (up1000 (by decide) s2)).trans ((B280 J2.two ji J2.a hb (by rw [l3]; lia) (up1000 (by decide) s3)).trans (B273 J2.two J2.s J2.a hb))
    · exact (B280 J2.two ji J2.a hb (by rw [l2]; lia) (up1000 (by decide) s2)).trans (B273 J2.two J2.s J2.a hb)
  cases k.isPlus
  · exact (B297 J2.two J2.s J2.a hb (by rw [l1]; lia) (up1000 (by decide) s1)).trans (mid ((addE_len ..).trans l1) (addE_small s1))
  · exact mid l1 fun es h => Nat.le_succ_of_le (s1 es h)
end

theorem th_grow {k : K8} {T T' : TS} {n : Nat} (hT : thStep k T = some T') (h1 : T.1.length ≤ 2 * n) (h2 : T.2.length ≤ n) (h3 : ∀ es ∈ T.1, es.length ≤ 4 * n) : T'.1.length ≤ 2 * (n + 1) ∧ T'.2.length ≤ n + 1 ∧ ∀ es ∈ T'.1, es.length ≤ 4 * (n + 1) := by
  have up : ∀ {m m' : Nat} {E : List (List Edge)}, m ≤ m' → (∀ es ∈ E, es.length ≤ m) → ∀ es ∈ E, es.length ≤ m' := fun hm h es hes => Nat.le_trans (h es hes) hm
  have t3 := two_small h3
  obtain ⟨E, st⟩ := T
  simp only at h1 h2 h3 t3
  have wr : ∀ {p o : Bool} {x : Nat × Nat}, ∀ es ∈ wrap p o E x, es.length ≤ 4 * (n + 1) := by
    intro p o x
    unfold wrap
    have a1 := addE_small (u := E.length) (e := (sE, x.1)) t3
    cases p <;> cases o <;> simp only [if_true, if_false, Bool.false_eq_true]
    · exact up (by lia) (addE_small (addE_small (addE_small a1)))
    · exact up (by lia) (addE_small (addE_small a1))
    · exact up (by lia) (addE_small (addE_small a1))
    · exact up (by lia) (addE_small a1)
  cases k with
  | chr s => cases hT; exact ⟨by simp only [leaf, addE_len, two_len]; lia, by simp [leaf]; lia, up (by lia) (addE_small t3)⟩
  | any => cases hT; exact ⟨by simp only [leaf, addE_len, two_len]; lia, by simp [leaf]; lia, up (by lia) (addE_small t3)⟩
  | eps => cases hT; exact ⟨by simp only [leaf, addE_len, two_len]; lia, by simp [leaf]; lia, up (by lia) (addE_small t3)⟩
  | star => cases st with
    | nil => simp [thStep] at hT
    | cons x st => cases hT; exact ⟨by simp only [wrap_len]; lia, by simp at h2 ⊢; lia, wr⟩
  | plus => cases st with
    | nil => simp [thStep] at hT
    | cons x st => cases hT; exact ⟨by simp only [wrap_len]; lia, by simp at h2 ⊢; lia, wr⟩
  | opt => cases st with
    | nil => simp [thStep] at hT
    | cons x st => cases hT; exact ⟨by simp only [wrap_len]; lia, by simp at h2 ⊢; lia, wr⟩
  | cat => cases st with
    | nil => simp [thStep] at hT
    | cons r st => cases st with
      | nil => simp [thStep] at hT
      | cons l st => cases hT; exact ⟨by simp only [addE_len]; lia, by simp at h2 ⊢; lia, up (by lia) (addE_small h3)⟩
  | alt => cases st with
    | nil => simp [thStep] at hT
    | cons r st => cases st with
      | nil => simp [thStep] at hT
      | cons l st => cases hT; exact ⟨by simp only [addE_len, two_len]; lia, by simp at h2 ⊢; lia, up (by lia) (addE_small (addE_small (addE_small (addE_small t3))))⟩
theorem th_step (d : Nat) {h0 : Hp} {b n : Nat} {ρ : Rho} {h : Hp} {k : K8} {T T' : TS} (hb : b ≤ h0.length) (hn : n ≤ 100) (hT : thStep k T = some T') (I : ThI h0 T n ρ h) (hlt : ∀ p ∈ T'.2, p.1 < T'.1.length ∧ p.2 < T'.1.length) :
    ∃ ρ' h', (thompson_l202 d b k.tup ρ h = some (.next, ρ', h') ∨ thompson_l202 d b k.tup ρ h = some (.cont, ρ', h')) ∧ ThI h0 T' (n + 1) ρ' h' := by
  obtain ⟨g1, g2, g3⟩ := th_grow hT I.len I.slen I.small
  obtain ⟨E, st⟩ := T
  have hh := I.heap
  simp only at hh
  subst hh
  have fin : ∀ {ρ' : Rho}, ρ' n_edges = some (.ref h0.length) ∧ ρ' n_stack = some (.ref (h0.length + 1)) → ThI h0 T' (n + 1) ρ' (th h0 T'.1 T'.2) := fun q => ⟨q.1, q.2, rfl, g1, g2, g3, hlt⟩
  cases k with
  | chr s =>
    cases hT
    obtain ⟨ρ', e, q⟩ := th_leaf d (k := .chr s) (l := s) rfl rfl rfl hb hn I
    exact ⟨ρ', _, .inl e, fin q⟩
  | any =>
    cases hT
    obtain ⟨ρ', e, q⟩ := th_leaf d (k := .any) (l := sDot) rfl rfl rfl hb hn I
    exact ⟨ρ', _, .inl e, fin q⟩
  | eps =>
    cases hT
    obtain ⟨ρ', e, q⟩ := th_leaf d (k := .eps) (l := sE) rfl rfl rfl hb hn I
    exact ⟨ρ', _, .inl e, fin q⟩
  | star => cases st with
    | nil => simp [thStep] at hT
    | cons x st =>
      cases hT
      obtain ⟨ρ', e, q⟩ := th_wrap d (k := .star) rfl rfl rfl hb hn I
      exact ⟨ρ', _, .inl e, fin q⟩
  | plus => cases st with
    | nil => simp [thStep] at hT
    | cons x st =>
      cases hT
      obtain ⟨ρ', e, q⟩ := th_wrap d (k := .plus) rfl rfl rfl hb hn I
      exact ⟨ρ', _, .inl e, fin q⟩
  | opt => cases st with
    | nil => simp [thStep] at hT
    | cons x st =>
      cases hT
      obtain ⟨ρ', e, q⟩ := th_wrap d (k := .opt) rfl rfl rfl hb hn I
      exact ⟨ρ', _, .inl e, fin q⟩
  | cat => cases st with
    | nil => simp [thStep] at hT
    | cons r st => cases st with
      | nil => simp [thStep] at hT
      | cons l st =>
        cases hT
        obtain ⟨ρ', e, q⟩ := th_cat d hb hn I
        exact ⟨ρ', _, .inr e, fin q⟩
  | alt => cases st with
    | nil => simp [thStep] at hT
    | cons r st => cases st with
      | nil => simp [thStep] at hT
      | cons l st =>
        cases hT
        obtain ⟨ρ', e, q⟩ := th_alt d hb hn I
        exact ⟨ρ', _, .inl e, fin q⟩
end Mine
end

section
set_option autoImplicit false
set_option maxRecDepth 100000
namespace Mine
open PySem
theorem th_def {t : List Nat} {E : List (List Edge)} {hi : Nat} {st : List (Nat × Nat)} {fs fs' : List Bf} {k : K8} (S : Stk t E hi st fs) (h : smStep t k fs = some fs') : ∃ T', thStep k (E, st) = some T' := by
  cases S with
  | nil => cases k <;> first | exact ⟨_, rfl⟩ | (simp [smStep] at h)
  | cons F S =>
    cases S with
    | nil => cases k <;> first | exact ⟨_, rfl⟩ | (simp [smStep] at h)
    | cons F2 S => cases k <;> exact ⟨_, rfl⟩
theorem addE_deg {E : List (List Edge)} {u : Nat} {e : Edge} {x : List Edge} (h : ∀ es ∈ E, es.length ≤ 2) (hu : E[u]? = some x) (hx : x.length ≤ 1) : ∀ es ∈ addE E u e, es.length ≤ 2 := by
  intro es hes
  unfold addE at hes
  rw [hu] at hes
  rcases List.mem_or_eq_of_mem_set hes with q | q
  · exact h es q
  · subst q
    rw [Option.getD_some, List.length_append]
    exact Nat.succ_le_succ hx
theorem th_deg {t : List Nat} {E : List (List Edge)} {st : List (Nat × Nat)} {fs : List Bf} {k : K8} {T' : TS} (S : Stk t E E.length st fs) (hd : ∀ es ∈ E, es.length ≤ 2) (h1 : thStep k (E, st) = some T') : ∀ es ∈ T'.1, es.length ≤ 2 := by
  have hd2 := two_small hd
  have z1 : ([] : List Edge).length ≤ 1 := Nat.zero_le _
  have one : ∀ {e : Edge}, [e].length ≤ 1 := Nat.le_refl _
  have lf : ∀ l, ∀ es ∈ (leaf E st l).1, es.length ≤ 2 := fun l => addE_deg hd2 (two_s E) z1
  have wr : ∀ (p o : Bool) (x : Nat × Nat), x.2 < E.length → E[x.2]? = some [] → ∀ es ∈ wrap p o E x, es.length ≤ 2 := fun p o x hx hac => by
    have hne : x.2 ≠ E.length := by lia
    have e0 : (two E)[x.2]? = some [] := by rw [two_old hx]; exact hac
    have d1 : ∀ e, ∀ es ∈ addE (two E) E.length e, es.length ≤ 2 := fun e => addE_deg hd2 (two_s E) z1
    have d2 : ∀ e e', ∀ es ∈ addE (addE (two E) E.length e) E.length e', es.length ≤ 2 := fun e e' => addE_deg (d1 e) (addE_self _ (two_s E)) one
    have e1 : ∀ e, (addE (two E) E.length e)[x.2]? = some [] := fun e => by rw [addE_ne _ hne]; exact e0
    have e2 : ∀ e e', (addE (addE (two E) E.length e) E.length e')[x.2]? = some [] := fun e e' => by rw [addE_ne _ hne]; exact e1 e
    unfold wrap
    cases p <;> cases o <;> simp only [if_true, if_false, Bool.false_eq_true]
    · exact addE_deg (addE_deg (d2 _ _) (e2 ..) z1) (addE_self _ (e2 ..)) one
    · exact addE_deg (d2 _ _) (e2 ..) z1
    · exact addE_deg (addE_deg (d1 _) (e1 _) z1) (addE_self _ (e1 _)) one
    · exact addE_deg (d1 _) (e1 _) z1
  cases k with
  | chr s => cases h1; exact lf _
  | any => cases h1; exact lf _
  | eps => cases h1; exact lf _
  | star =>
    cases st with
    | nil => cases h1
    | cons x st => cases h1; obtain ⟨lo, f, fs', _, F, _⟩ := S.inv; exact wr _ _ x F.a2 F.acc
  | plus =>
    cases st with
    | nil => cases h1
    | cons x st => cases h1; obtain ⟨lo, f, fs', _, F, _⟩ := S.inv; exact wr _ _ x F.a2 F.acc
  | opt =>
    cases st with
    | nil => cases h1
    | cons x st => cases h1; obtain ⟨lo, f, fs', _, F, _⟩ := S.inv; exact wr _ _ x F.a2 F.acc
  | cat =>
    cases st with
    | nil => cases h1
    | cons r st =>
    cases st with
    | nil => cases h1
    | cons l st =>
      cases h1
      obtain ⟨lo, f, fs', _, F, S2⟩ := S.inv
      obtain ⟨lo2, f2, fs2, _, F2, _⟩ := S2.inv
      exact addE_deg hd F2.acc z1
  | alt =>
    cases st with
    | nil => cases h1
    | cons r st =>
    cases st with
    | nil => cases h1
    | cons l st =>
      cases h1
      obtain ⟨lo, f, fs', _, F, S2⟩ := S.inv
      obtain ⟨lo2, f2, fs2, _, F2, _⟩ := S2.inv
      have a1 := F.a1; have a2 := F.a2; have b2 := F2.a2
      have n1 : l.2 ≠ E.length := by lia
      have n2 : r.2 ≠ E.length := by lia
      have n3 : r.2 ≠ l.2 := by lia
      have d1 : ∀ e, ∀ es ∈ addE (two E) E.length e, es.length ≤ 2 := fun e => addE_deg hd2 (two_s E) z1
      have d2 : ∀ e e', ∀ es ∈ addE (addE (two E) E.length e) E.length e', es.length ≤ 2 := fun e e' => addE_deg (d1 e) (addE_self _ (two_s E)) one
      have el : ∀ e e', (addE (addE (two E) E.length e) E.length e')[l.2]? = some [] := fun e e' => by rw [addE_ne _ n1, addE_ne _ n1, two_old (by lia)]; exact F2.acc
      have er : ∀ e e', (addE (addE (two E) E.length e) E.length e')[r.2]? = some [] := fun e e' => by rw [addE_ne _ n2, addE_ne _ n2, two_old a2]; exact F.acc
      exact addE_deg (addE_deg (d2 _ _) (el ..) z1) (by rw [addE_ne _ n3]; exact er ..) z1
noncomputable def AllOk (ks : List K8) : Prop := ∀ k ∈ ks, k.ok
theorem sms_drop {t : List Nat} {ks : List K8} {fs r : List Bf} {i : Nat} {k : K8} (hk : ks[i]? = some k) (h : sms t (ks.drop i) fs = some r) : ∃ fs', smStep t k fs = some fs' ∧ sms t (ks.drop (i + 1)) fs' = some r := by
  obtain ⟨hl, e⟩ := List.getElem?_eq_some_iff.mp hk
  rw [List.drop_eq_getElem_cons hl, e] at h
  exact Option.bind_eq_some_iff.mp h
theorem th_pre {h0 : Hp} {E : List (List Edge)} {st : List (Nat × Nat)} {a : Nat} {xs : List V} (h : h0[a]? = some xs) : (th h0 E st)[a]? = some xs := get_pre _ h

theorem thompson_spec (d : Nat) {h : Hp} {a0 : Nat} {ks : List K8} {t : List Nat} {f : Bf} (ha : h[a0]? = some (ks.map K8.tup)) (hok : AllOk ks) (hs : sms t ks [] = some [f]) (hn : ks.length ≤ 90) :
    ∃ E s a, (G (d + 2)).fn f_thompson [.ref a0] h = some (.tup [.int (s : Nat), .int (a : Nat), .ref h.length], th h E [(s, a)]) ∧ Frag t E 0 E.length s a f ∧ E.length ≤ 2 * ks.length ∧ ∀ es ∈ E, es.length ≤ 2 := by
  rw [thompson_eq]
  unfold thompson_s
  have h1 : (h ++ [[]]) ++ [[]] = th h [] [] := by simp [th, eV, stV]
  have hi : itemsOf (.ref a0) (th h [] []) = some (ks.map K8.tup, some a0) := by simp only [itemsOf, th_pre ha, Option.map_some]
  simp only [h1, hi, Option.bind_some]
  obtain ⟨ρ', h', e1, T, fs, I, S, hdg, rd, hr⟩ := loopS_rule (c := some a0) (all := ks.map K8.tup) (f := thompson_l202 d h.length) (fun i ρ h' => ∃ T fs, ThI h T i ρ h' ∧ Stk t T.1 T.1.length T.2 fs ∧ (∀ es ∈ T.1, es.length ≤ 2) ∧ AllRd (t.length + 1) fs ∧ sms t (ks.drop i) fs = some [f])
    (fun i x ρ h' hx hi => by
      obtain ⟨T, fs, I, S, hdg, rd, hr⟩ := hi
      rw [List.getElem?_map] at hx
      obtain ⟨k, hk, rfl⟩ := Option.map_eq_some_iff.mp hx
      have hlt := (List.getElem?_eq_some_iff.mp hk).1
      obtain ⟨fs', h2, h3⟩ := sms_drop hk hr
      obtain ⟨T', h4⟩ := th_def S h2
      have S' := th_inv (hok k (List.mem_of_getElem? hk)) S rd h4 h2
      obtain ⟨ρ', h'', e, I'⟩ := th_step d (b := h.length) (Nat.le_refl _) (by lia) h4 I S'.lt
      exact ⟨chk_some (by rw [I.heap]; exact th_pre ha), ρ', h'', e, T', fs', I', S', th_deg S hdg h4, sm_rd h2 rd, h3⟩)
    (fun ρ h' hi => by
      obtain ⟨T, fs, I, _⟩ := hi
      exact chk_some (by rw [I.heap]; exact th_pre ha))
    (ρ := upd (upd (fun x => List.lookup x (List.zip [n_post] [V.ref a0]).reverse) n_edges (V.ref h.length)) n_stack (V.ref (h ++ [[]]).length)) (h := th h [] [])
    ⟨([], []), [], ⟨(un (by decide)).trans us, (us.trans (by simp)), rfl, by simp, by simp, by simp, by simp⟩, .nil, (fun _ hf => (nomatch hf)), (fun _ hf => (nomatch hf) : AllRd (t.length + 1) []), hs⟩
  rw [e1]
  rw [List.length_map, List.drop_length] at hr
  cases hr
  obtain ⟨E, st⟩ := T
  cases hst : st with
  | nil => rw [hst] at S; generalize hz : E.length = z at S; cases S
  | cons p st' =>
    rw [hst] at S
    obtain ⟨lo, f', fs', e2, F, S⟩ := S.inv
    injection e2 with e2 e3
    subst e2 e3
    generalize hz : lo = z at S F
    cases S
    subst hst
    have hh := I.heap
    have hl := I.len
    simp only [List.length_map] at hh hl
    subst hh
    simp only [Option.bind_some, I.stack, um1, th_top, pr_0, pr_1, I.edges]
    exact ⟨E, p.1, p.2, rfl, F, hl, hdg⟩
end Mine
end

section
set_option autoImplicit false
set_option maxRecDepth 100000
namespace Mine
open PySem

/-! paths, cut at their last sign -/
section
variable {t : List Nat} {E : List (List Edge)}
/-- a step that reads the sign at i -/
noncomputable def Rds (t : List Nat) (E : List (List Edge)) (u i w : Nat) : Prop := ∃ es l c, E[u]? = some es ∧ (l, w) ∈ es ∧ t[i]? = some c ∧ (l = ⟨#[c]⟩ ∨ l = sDot)
theorem pth_cut {s k v j : Nat} (p : Pth t E s k v j) : ∀ {i : Nat}, j = i + 1 → k ≤ i → ∃ u w, Pth t E s k u i ∧ Rds t E u i w ∧ Pth t E w (i + 1) v (i + 1) := by
  induction p with
  | refl => intro i h1 h2; lia
  | @step s k s' k' v j e q ih =>
    intro i h1 h2
    subst h1
    have hl := est_le e
    obtain ⟨es, l, q1, q2, h | ⟨c, hc, h, h'⟩⟩ := id e
    · obtain ⟨u, w, a1, a2, a3⟩ := ih rfl (by lia)
      exact ⟨u, w, .step e a1, a2, a3⟩
    · by_cases hk : k = i
      · subst hk
        subst h'
        exact ⟨s, s', .refl .., ⟨es, l, c, q1, q2, hc, h⟩, q⟩
      · obtain ⟨u, w, a1, a2, a3⟩ := ih rfl (by lia)
        exact ⟨u, w, .step e a1, a2, a3⟩
theorem Rds.est {u i w : Nat} (h : Rds t E u i w) : Est t E u i w (i + 1) := by
  obtain ⟨es, l, c, h1, h2, h3, h4⟩ := h
  exact ⟨es, l, h1, h2, .inr ⟨c, h3, h4, rfl⟩⟩
theorem pth_next {s v i : Nat} : Pth t E s 0 v (i + 1) ↔ ∃ w, (∃ u, Pth t E s 0 u i ∧ Rds t E u i w) ∧ Pth t E w (i + 1) v (i + 1) := by
  constructor
  · intro p
    obtain ⟨u, w, h1, h2, h3⟩ := pth_cut p rfl (Nat.zero_le _)
    exact ⟨w, ⟨u, h1, h2⟩, h3⟩
  · rintro ⟨w, ⟨u, h1, h2⟩, h3⟩
    exact h1.trans (.step h2.est h3)
/-- a set that is closed under the empty edges holds all that is reached without a sign -/
theorem pth_closed {S : List Nat} {u v i j : Nat} (hc : ∀ x ∈ S, ∀ es, E[x]? = some es → ∀ y, (sE, y) ∈ es → y ∈ S) (p : Pth t E u i v j) : i = j → u ∈ S → v ∈ S := by
  induction p with
  | refl => intro _ h; exact h
  | step e q ih =>
    intro h1 h2
    subst h1
    have l1 := est_le e; have l2 := q.le
    obtain ⟨es, l, q1, q2, h | ⟨c, hc', h, h'⟩⟩ := e
    · obtain ⟨rfl, h⟩ := h
      exact ih h (hc _ h2 es q1 _ q2)
    · lia
end

/-! lists of states in the heap -/
noncomputable def nV (S : List Nat) : List V := S.map fun x : Nat => V.int x
theorem rd_nV (n : Nat) (h : Hp) : ∀ S : List Nat, rdAll (rd n h) (nV S) = some (S.map fun x : Nat => PyData.int x)
  | [] => rfl
  | x :: S => by
    have e : rd n h (.int x) = some (.int x) := by cases n <;> rfl
    show ((rd n h (.int x)).bind fun d => (rdAll (rd n h) (nV S)).map (d :: ·)) = _
    rw [e, rd_nV n h S]; rfl
theorem in_nV {h : Hp} {a x : Nat} {S : List Nat} (e : h[a]? = some (nV S)) : inV h (.int x) (.ref a) = some (decide (x ∈ S)) := by
  show ((h[a]?).bind fun vs => (rd 8 h (.int x)).bind fun d => (rdAll (rd 8 h) vs).map fun ds => ds.any fun y => PyData.eqv y d) = _
  rw [e]
  simp only [Option.bind_some, rd_nV, Option.map_some, show rd 8 h (.int x) = some (.int x) from rfl]
  congr 1
  rw [Bool.eq_iff_iff]
  simp only [List.any_map, List.any_eq_true, Function.comp_def, decide_eq_true_eq]
  constructor
  · rintro ⟨y, hy, e⟩
    have : ((y : Int) == x) = true := e
    have : y = x := by have := beq_iff_eq.mp this; lia
    subst this; exact hy
  · intro hx
    exact ⟨x, hx, by show ((x : Int) == x) = true; simp⟩
theorem c_in {h : Hp} {a x : Nat} {S : List Nat} (e : h[a]? = some (nV S)) : cmpop .In (.int x) (.ref a) h = some (decide (x ∈ S)) := in_nV e
theorem c_nin {h : Hp} {a x : Nat} {S : List Nat} (e : h[a]? = some (nV S)) : cmpop .NotIn (.int x) (.ref a) h = some (!decide (x ∈ S)) := by
  show (inV h (.int x) (.ref a)).map _ = _
  rw [in_nV e]; rfl
theorem nV_app (S : List Nat) (x : Nat) : nV S ++ [V.int x] = nV (S ++ [x]) := by simp [nV]
theorem ints_nV : ∀ S : List Nat, intsOf (nV S) = some (S.map fun x : Nat => (x : Int))
  | [] => rfl
  | x :: S => by
    show (intsOf (nV S)).map (((x : Int)) :: ·) = _
    rw [ints_nV S]; rfl
theorem sorted_nV {h : Hp} {a : Nat} {S : List Nat} (e : h[a]? = some (nV S)) (hl : S.length < 64) : ∃ R, callB b_sorted [.ref a] h = some (.ref h.length, h ++ [nV R]) ∧ ∀ v, v ∈ R ↔ v ∈ S := by
  have hp := sortI_perm (S.map fun x : Nat => (x : Int))
  refine ⟨(sortI (S.map fun x : Nat => (x : Int))).map Int.toNat, ?_, fun v => ?_⟩
  · rw [callB_sorted]
    simp only [one, refV, sortedV, e, Option.bind_some, ints_nV, List.length_map, hl, if_true]
    congr 3
    simp only [nV, List.map_map]
    congr 1
    apply List.map_congr_left
    intro z hz
    obtain ⟨y, _, rfl⟩ := List.mem_map.mp (hp.mem_iff.mp hz)
    simp
  · rw [List.mem_map]
    constructor
    · rintro ⟨z, hz, rfl⟩
      obtain ⟨y, hy, rfl⟩ := List.mem_map.mp (hp.mem_iff.mp hz)
      simpa using hy
    · intro hv
      exact ⟨(v : Int), hp.mem_iff.mpr (List.mem_map.mpr ⟨v, hv, rfl⟩), by simp⟩

/-- the edges at e -/
structure EdgeAt (h : Hp) (e : Nat) (E : List (List Edge)) : Prop where
  rows : ∃ rs : List Nat, h[e]? = some (rs.map V.ref) ∧ rs.length = E.length ∧ ∀ (u : Nat) es, E[u]? = some es → ∃ r, rs[u]? = some r ∧ h[r]? = some (rowV es)
theorem EdgeAt.app {h : Hp} {e : Nat} {E : List (List Edge)} (x : EdgeAt h e E) (L : Hp) : EdgeAt (h ++ L) e E := by
  obtain ⟨rs, h1, h2, h3⟩ := x.rows
  exact ⟨rs, get_pre L h1, h2, fun u es hu => let ⟨r, q1, q2⟩ := h3 u es hu; ⟨r, q1, get_pre L q2⟩⟩
theorem EdgeAt.len {h : Hp} {e : Nat} {E : List (List Edge)} (x : EdgeAt h e E) : callB b_len [.ref e] h = some (.int E.length, h) := by
  obtain ⟨rs, h1, h2, _⟩ := x.rows
  rw [len_ref _ h1]; simp [h2]
theorem EdgeAt.at {h : Hp} {e : Nat} {E : List (List Edge)} (x : EdgeAt h e E) {u : Nat} {es : List Edge} (hu : E[u]? = some es) : ∃ r, idx (.ref e) (.int u) h = some (.ref r) ∧ h[r]? = some (rowV es) := by
  obtain ⟨rs, h1, h2, h3⟩ := x.rows
  obtain ⟨r, q1, q2⟩ := h3 u es hu
  exact ⟨r, idx_ref h1 (by lia) (by simp [q1]), q2⟩
theorem th_edges {h0 : Hp} {E : List (List Edge)} {st : List (Nat × Nat)} : EdgeAt (th h0 E st) h0.length E :=
  ⟨(List.range E.length).map (h0.length + 2 + ·), by rw [th_e]; simp [eV, Function.comp_def], by simp, fun u es hu => by
    have hl := (List.getElem?_eq_some_iff.mp hu).1
    exact ⟨h0.length + 2 + u, by simp [hl], by rw [th_r, hu]; rfl⟩⟩

/-- a loop that may be left -/
theorem loopS_brk {c : Option Nat} {all : List V} {f : V → Rho → Hp → Option (Fl × Rho × Hp)} (I : Nat → Rho → Hp → Prop) (B : Rho → Hp → Prop)
    (hc : ∀ i ρ h, I i ρ h → chk c all h = true)
    (hstep : ∀ i x ρ h, all[i]? = some x → I i ρ h → ∃ ρ' h', (f x ρ h = some (.next, ρ', h') ∧ I (i + 1) ρ' h') ∨ (f x ρ h = some (.brk, ρ', h') ∧ B ρ' h'))
    (hend : ∀ ρ h, I all.length ρ h → B ρ h) {ρ : Rho} {h : Hp} (h0 : I 0 ρ h) :
    ∃ ρ' h', loopS c all f all ρ h = some (.next, ρ', h') ∧ B ρ' h' := by
  suffices H : ∀ (rest : List V) (i : Nat) (ρ : Rho) (h : Hp), all.drop i = rest → I i ρ h → i ≤ all.length → ∃ ρ' h', loopS c all f rest ρ h = some (.next, ρ', h') ∧ B ρ' h' from H all 0 ρ h rfl h0 (Nat.zero_le _)
  intro rest
  induction rest with
  | nil =>
    intro i ρ h hd hi hl
    have : i = all.length := by
      have := congrArg List.length hd
      simp at this
      lia
    subst this
    exact ⟨ρ, h, by simp [loopS, hc _ _ _ hi], hend _ _ hi⟩
  | cons x rest ih =>
    intro i ρ h hd hi hl
    have hx : all[i]? = some x := by rw [← List.head?_drop, hd]; rfl
    have hr : all.drop (i + 1) = rest := by rw [← List.tail_drop, hd]; rfl
    have hlt := (List.getElem?_eq_some_iff.mp hx).1
    unfold loopS
    rw [if_pos (hc _ _ _ hi)]
    obtain ⟨ρ', h', ⟨e, hi'⟩ | ⟨e, hB⟩⟩ := hstep i x ρ h hx hi
    · rw [e]; exact ih (i + 1) ρ' h' hr hi' (by lia)
    · rw [e]; exact ⟨ρ', h', rfl, hB⟩
end Mine
end

section
set_option autoImplicit false
namespace Mine
open PySem

theorem blank_spec (d : Nat) {m : Nat} (hm : m ≤ 1000) (h : Hp) : (G (d + 2)).fn f_blank_table [.int m] h = some (.ref h.length, tabAt h (mat (m + 1) fun _ _ => false)) := by
  rw [blank_table_eq]
  unfold blank_table_s
  simp only [bi_add, Option.bind_some]
  have e : (m : Int) + 1 = ((m + 1 : Nat) : Int) := by lia
  simp only [e]
  rw [rA1 (by lia)]
  simp only [Option.bind_some]
  have hl : (rangeV 0 ((m + 1 : Nat) : Int)).length = m + 1 := by simp [rangeV]
  rw [tabAt_nil, loopL_tab (row := fun _ => (List.range (m + 1)).map fun _ => false) (fun _ => rfl) _ [] (fun y hy M hM => by
    rw [loopL_app (v := fun _ => V.bool false) _ [] (fun y hy xs hx => appendTo_last _ (by lia)) (by rw [hl]; simp; lia)]
    simp only [Option.bind_some, List.nil_append]
    have : (rangeV 0 ((m + 1 : Nat) : Int)).map (fun _ => V.bool false) = ((List.range (m + 1)).map fun _ => false).map V.bool := by
      simp [rangeV, Function.comp_def]
    rw [this]
    exact tabAt_app _ _ _ (by lia)) (by rw [hl]; simp; lia)]
  simp [rangeV, mat, Function.comp_def]

theorem tc_j (d b : Nat) {h0 : Hp} (hb : b ≤ h0.length) {n : Nat} (hn : n ≤ 1000) {bb lob : Nat} {B : Nat → Nat → Bool} (hB : IsTab h0 lob bb (mat n B)) {i k : Nat} (hi : i < n) (hk : k < n) {f : Nat → Nat → Bool} {ρ : Rho}
    (h1 : ρ n_b = some (.ref bb)) (h2 : ρ n_k = some (.int k)) (h3 : ρ n_i = some (.int i)) (h4 : ρ n_table = some (.ref h0.length)) :
    ∃ ρ' h', loopS none (rangeV 0 n) (table_cat_l54 d b) (rangeV 0 n) ρ (tabAt h0 (mat n f)) = some (.next, ρ', h') ∧ (∃ g, h' = tabAt h0 (mat n g) ∧ ∀ i', i' < n → ∀ j', j' < n → g i' j' = (f i' j' || (decide (i' = i) && B k j'))) ∧ ∀ x, x ≠ n_j → ρ' x = ρ x := by
  obtain ⟨ρ1, h1', q1, ⟨g, rfl, hg⟩, fr⟩ := loop_range (n := n) (f := table_cat_l54 d b) (fun J ρ' h' => (∃ g, h' = tabAt h0 (mat n g) ∧ ∀ i', i' < n → ∀ j', j' < n → g i' j' = (f i' j' || (decide (i' = i) && decide (j' < J) && B k j'))) ∧ ∀ x, x ≠ n_j → ρ' x = ρ x) (fun J hJ ρ' h' I => by
      obtain ⟨⟨g, rfl, hg⟩, fr⟩ := I
      obtain ⟨r, _, e1, e2⟩ := (show IsTab (tabAt h0 (mat n g)) lob bb (mat n B) from hB.app _).cell hk hJ
      obtain ⟨s1, s2⟩ := tab_set (b := b) h0 g true hi hJ hb
      unfold table_cat_l54
      simp only [fr n_b (by decide), fr n_k (by decide), fr n_i (by decide), fr n_table (by decide), h1, h2, h3, h4, Option.bind_some, e1, e2, truth_bool]
      cases hv : B k J
      · refine ⟨_, _, rfl, ⟨g, rfl, fun i' hi' j' hj' => ?_⟩, fun x hx => by simp only [upd, hx, if_false]; exact fr x hx⟩
        rw [hg i' hi' j' hj']
        by_cases hjJ : j' = J
        · subst hjJ; simp [hv]
        · have : decide (j' < J + 1) = decide (j' < J) := by simp; lia
          rw [this]
      · simp only [if_true, s1, Option.bind_some, s2]
        refine ⟨_, _, rfl, ⟨_, rfl, fun i' hi' j' hj' => ?_⟩, fun x hx => by simp only [upd, hx, if_false]; exact fr x hx⟩
        unfold updM
        by_cases hc : i' = i ∧ j' = J
        · obtain ⟨rfl, rfl⟩ := hc
          simp [hv]
        · rw [if_neg hc, hg i' hi' j' hj']
          by_cases hii : i' = i
          · have hjJ : j' ≠ J := fun e => hc ⟨hii, e⟩
            have : decide (j' < J + 1) = decide (j' < J) := by simp; lia
            rw [this]
          · simp [hii])
    (ρ := ρ) (h := tabAt h0 (mat n f)) ⟨⟨f, rfl, fun i' hi' j' hj' => by simp⟩, fun _ _ => rfl⟩
  refine ⟨ρ1, _, q1, ⟨g, rfl, fun i' hi' j' hj' => ?_⟩, fr⟩
  rw [hg i' hi' j' hj']
  simp [hj']
theorem any_succ (n : Nat) (p : Nat → Bool) : (List.range (n + 1)).any p = ((List.range n).any p || p n) := by simp [List.range_succ]
theorem tc_k (d b : Nat) {h0 : Hp} (hb : b ≤ h0.length) {n : Nat} (hn : n ≤ 1000) {aa loa bb lob : Nat} {A B : Nat → Nat → Bool} (hA : IsTab h0 loa aa (mat n A)) (hB : IsTab h0 lob bb (mat n B)) {i : Nat} (hi : i < n) {f : Nat → Nat → Bool} {ρ : Rho}
    (h0' : ρ n_a = some (.ref aa)) (h1 : ρ n_b = some (.ref bb)) (h3 : ρ n_i = some (.int i)) (h4 : ρ n_table = some (.ref h0.length)) (h5 : ρ n_size = some (.int n)) :
    ∃ ρ' h', loopS none (rangeV 0 n) (table_cat_l46 d b) (rangeV 0 n) ρ (tabAt h0 (mat n f)) = some (.next, ρ', h') ∧ (∃ g, h' = tabAt h0 (mat n g) ∧ ∀ i', i' < n → ∀ j', j' < n → g i' j' = (f i' j' || (decide (i' = i) && (List.range n).any fun k => A i k && B k j'))) ∧ ∀ x, x ≠ n_j → x ≠ n_k → ρ' x = ρ x := by
  exact loop_range (n := n) (f := table_cat_l46 d b) (fun K ρ' h' => (∃ g, h' = tabAt h0 (mat n g) ∧ ∀ i', i' < n → ∀ j', j' < n → g i' j' = (f i' j' || (decide (i' = i) && (List.range K).any fun k => A i k && B k j'))) ∧ ∀ x, x ≠ n_j → x ≠ n_k → ρ' x = ρ x) (fun K hK ρ' h' I => by
      obtain ⟨⟨g, rfl, hg⟩, fr⟩ := I
      obtain ⟨r, _, e1, e2⟩ := (show IsTab (tabAt h0 (mat n g)) loa aa (mat n A) from hA.app _).cell hi hK
      unfold table_cat_l46
      simp only [fr n_a (by decide) (by decide), fr n_i (by decide) (by decide), fr n_size (by decide) (by decide), h0', h3, h5, Option.bind_some, e1, e2, truth_bool]
      cases hv : A i K
      · refine ⟨_, _, rfl, ⟨g, rfl, fun i' hi' j' hj' => ?_⟩, fun x hx hx2 => by simp only [upd, hx2, if_false]; exact fr x hx hx2⟩
        rw [hg i' hi' j' hj', any_succ, hv]
        simp
      · simp only [if_true]
        rw [rA1 (by lia)]
        simp only [Option.bind_some]
        obtain ⟨ρ2, h2, q2, ⟨g2, rfl, hg2⟩, fr2⟩ := tc_j d b hb hn hB hi hK (f := g) (ρ := upd ρ' n_k (.int K)) (by simp only [upd, ne_table_cat, if_false]; rw [fr n_b (by decide) (by decide)]; exact h1) (by simp only [upd, if_true]) (by simp only [upd, ne_table_cat, if_false]; rw [fr n_i (by decide) (by decide)]; exact h3) (by simp only [upd, ne_table_cat, if_false]; rw [fr n_table (by decide) (by decide)]; exact h4)
        rw [q2]
        simp only [Option.bind_some]
        refine ⟨_, _, rfl, ⟨g2, rfl, fun i' hi' j' hj' => ?_⟩, fun x hx hx2 => by rw [fr2 x hx]; simp only [upd, hx2, if_false]; exact fr x hx hx2⟩
        rw [hg2 i' hi' j' hj', hg i' hi' j' hj', any_succ, hv]
        cases f i' j' <;> cases decide (i' = i) <;> simp)
    (ρ := ρ) (h := tabAt h0 (mat n f)) ⟨⟨f, rfl, fun i' hi' j' hj' => by simp⟩, fun _ _ _ => rfl⟩
theorem cat_spec (d : Nat) {h : Hp} {n : Nat} (hn : n ≤ 1000) (hn1 : 1 ≤ n) {aa loa bb lob : Nat} {A B : Nat → Nat → Bool} (hA : IsTab h loa aa (mat n A)) (hB : IsTab h lob bb (mat n B)) :
    (G (d + 3)).fn f_table_cat [.ref aa, .ref bb] h = some (.ref h.length, tabAt h (mat n (mcat n A B))) := by
  rw [show d + 3 = (d + 1) + 2 from rfl, table_cat_eq]
  unfold table_cat_s
  rw [hA.len, mat_len]
  simp only [Option.bind_some, bi_sub]
  rw [show (n : Int) - 1 = ((n - 1 : Nat) : Int) by lia, blank_spec d (by lia), show n - 1 + 1 = n by lia]
  simp only [Option.bind_some]
  rw [rA1 (by lia)]
  simp only [Option.bind_some]
  obtain ⟨ρ1, h1, q1, ⟨g, rfl, hg⟩, h4, _⟩ := loop_range (n := n) (f := table_cat_l43 (d + 1) h.length) (fun I ρ' h' => (∃ g, h' = tabAt h (mat n g) ∧ ∀ i', i' < n → ∀ j', j' < n → g i' j' = (decide (i' < I) && mcat n A B i' j')) ∧ ρ' n_table = some (.ref h.length) ∧ ρ' n_a = some (.ref aa) ∧ ρ' n_b = some (.ref bb) ∧ ρ' n_size = some (.int n)) (fun i hi ρ' h' I => by
      obtain ⟨⟨g, rfl, hg⟩, i1, i2, i3, i4⟩ := I
      unfold table_cat_l43
      simp only [i4, Option.bind_some]
      rw [rA1 (by lia)]
      simp only [Option.bind_some]
      obtain ⟨ρ2, h2, q2, ⟨g2, rfl, hg2⟩, fr2⟩ := tc_k (d + 1) h.length (Nat.le_refl _) hn hA hB hi (f := g) (ρ := upd ρ' n_i (.int i)) (by simp only [upd, ne_table_cat, if_false]; exact i2) (by simp only [upd, ne_table_cat, if_false]; exact i3) (by simp only [upd, if_true]) (by simp only [upd, ne_table_cat, if_false]; exact i1) (by simp only [upd, ne_table_cat, if_false]; exact i4)
      rw [q2]
      simp only [Option.bind_some]
      refine ⟨_, _, rfl, ⟨g2, rfl, fun i' hi' j' hj' => ?_⟩, ?_, ?_, ?_, ?_⟩
      · rw [hg2 i' hi' j' hj', hg i' hi' j' hj']
        by_cases hii : i' = i
        · subst hii; simp [mcat]
        · have : decide (i' < i + 1) = decide (i' < i) := by simp; lia
          simp [hii, this]
      · rw [fr2 _ (by decide) (by decide)]; simp only [upd, ne_table_cat, if_false]; exact i1
      · rw [fr2 _ (by decide) (by decide)]; simp only [upd, ne_table_cat, if_false]; exact i2
      · rw [fr2 _ (by decide) (by decide)]; simp only [upd, ne_table_cat, if_false]; exact i3
      · rw [fr2 _ (by decide) (by decide)]; simp only [upd, ne_table_cat, if_false]; exact i4)
    (ρ := upd (upd (fun x => List.lookup x (List.zip [n_a, n_b] [V.ref aa, V.ref bb]).reverse) n_size (.int n)) n_table (V.ref h.length)) (h := tabAt h (mat n fun _ _ => false))
    ⟨⟨_, rfl, fun i' hi' j' hj' => by simp⟩, by simp only [upd, if_true], by simp only [upd, ne_table_cat, if_false]; rfl, by simp only [upd, ne_table_cat, if_false]; rfl, by simp only [upd, ne_table_cat, if_false, if_true]⟩
  rw [q1]
  simp only [Option.bind_some, h4]
  rw [mat_ext (g := mcat n A B) fun i hi j hj => by rw [hg i hi j hj]; simp [hi]]
end Mine
end

section
set_option autoImplicit false
set_option maxRecDepth 100000
namespace Mine
open PySem

/-- a new table behind h -/
noncomputable def Out (r : Option (V × Hp)) (h : Hp) (n : Nat) (f : Bf) : Prop := ∃ a L, r = some (.ref a, h ++ L) ∧ IsTab (h ++ L) h.length a (mat n f)
theorem Out.tab {r : Option (V × Hp)} {h : Hp} {n : Nat} {f : Bf} (e : r = some (.ref h.length, tabAt h (mat n f))) : Out r h n f :=
  ⟨h.length, _, e, tabAt_is h (mat n f)⟩
theorem cat_out (d : Nat) {h : Hp} {n : Nat} (hn : n ≤ 1000) (hn1 : 1 ≤ n) {aa loa bb lob : Nat} {A B : Bf} (hA : IsTab h loa aa (mat n A)) (hB : IsTab h lob bb (mat n B)) : Out ((G (d + 3)).fn f_table_cat [.ref aa, .ref bb] h) h n (mcat n A B) := .tab (cat_spec d hn hn1 hA hB)

theorem rangeV_mem {n : Nat} {y : V} (h : y ∈ rangeV 0 (n : Nat)) : ∃ i : Nat, i < n ∧ y = .int i := by
  simp only [rangeV, List.mem_map, List.mem_range] at h
  obtain ⟨i, hi, rfl⟩ := h
  exact ⟨i, by lia, by simp⟩
noncomputable def vN : V → Nat
  | .int i => i.toNat
  | _ => 0
theorem alt_out (d : Nat) {h : Hp} {n : Nat} (hn : n ≤ 1000) {aa loa bb lob : Nat} {A B : Bf} (hA : IsTab h loa aa (mat n A)) (hB : IsTab h lob bb (mat n B)) : Out ((G (d + 2)).fn f_table_alt [.ref aa, .ref bb] h) h n (malt A B) := by
  refine .tab ?_
  rw [table_alt_eq]
  unfold table_alt_s
  rw [hA.len, mat_len]
  simp only [Option.bind_some]
  rw [rA1 (by lia)]
  simp only [Option.bind_some]
  have hl : (rangeV 0 (n : Int)).length = n := by simp [rangeV]
  rw [tabAt_nil, loopL_tab (row := fun y => (List.range n).map fun j => malt A B (vN y) j) (fun _ => rfl) _ [] (fun y hy M hM => by
    obtain ⟨i, hi, rfl⟩ := rangeV_mem hy
    have hA' : ∀ L, IsTab (tabAt h M ++ L) loa aa (mat n A) := fun L => by
      have : tabAt h M ++ L = h ++ ((((List.range M.length).map fun i => V.ref (h.length + 1 + i)) :: M.map fun row => row.map V.bool) ++ L) := by simp [tabAt]
      rw [this]; exact hA.app _
    have hB' : ∀ L, IsTab (tabAt h M ++ L) lob bb (mat n B) := fun L => by
      have : tabAt h M ++ L = h ++ ((((List.range M.length).map fun i => V.ref (h.length + 1 + i)) :: M.map fun row => row.map V.bool) ++ L) := by simp [tabAt]
      rw [this]; exact hB.app _
    have hA0 : IsTab (tabAt h M) loa aa (mat n A) := by have := hA' []; rwa [List.append_nil] at this
    rw [hA0.len, mat_len]
    simp only [Option.bind_some]
    rw [rA1 (by lia)]
    simp only [Option.bind_some]
    rw [loopL_app (v := fun z => V.bool (malt A B i (vN z))) _ [] (fun z hz xs hx => by
      obtain ⟨j, hj, rfl⟩ := rangeV_mem hz
      obtain ⟨r, _, e1, e2⟩ := (hA' [xs]).cell hi hj
      obtain ⟨r', _, e3, e4⟩ := (hB' [xs]).cell hi hj
      simp only [e1, e2, Option.bind_some, truth_bool]
      cases ha : A i j
      · simp only [Bool.false_eq_true, if_false, e3, e4, Option.bind_some]
        rw [appendTo_last _ (by lia)]
        have : malt A B i (vN (.int j)) = B i j := by show (A i j || B i j) = _; rw [ha]; rfl
        rw [this]
      · simp only [if_true]
        rw [appendTo_last _ (by lia)]
        have : malt A B i (vN (.int j)) = true := by show (A i j || B i j) = _; rw [ha]; rfl
        rw [this]) (by rw [hl]; simp; lia)]
    simp only [Option.bind_some, List.nil_append]
    have : (rangeV 0 (n : Int)).map (fun z => V.bool (malt A B i (vN z))) = ((List.range n).map fun j => malt A B (vN (.int i)) j).map V.bool := by
      simp only [rangeV, List.map_map]
      rw [show ((n : Int) - 0).toNat = n by lia]
      apply List.map_congr_left
      intro j _
      simp [vN]
    rw [this]
    exact tabAt_app _ _ _ (by lia)) (by rw [hl]; simp; lia)]
  simp only [Option.bind_some, List.nil_append]
  congr 3
  unfold mat rangeV
  rw [show ((n : Int) - 0).toNat = n by lia, List.map_map]
  apply List.map_congr_left
  intro i _
  simp [vN]

noncomputable def K8.isEps : K8 → Bool | .eps => true | _ => false
theorem q_eps (k : K8) (h : Hp) : cmpop .Eq (.str k.kind) (V.str ⟨#[101, 112, 115]⟩) h = some k.isEps := by cases k <;> kernel_rfl
/-- what a leaf reads -/
noncomputable def leafF (t : List Nat) : K8 → Bf
  | .chr s => mchr t s
  | .any => mdot t
  | _ => meps (t.length + 1)
theorem sign_out (d : Nat) {h : Hp} {t : List Nat} (k : K8) (hk : k.isLeaf = true) (ht : t.length ≤ 100) : Out ((G (d + 3)).fn f_table_of_sign [.str k.kind, .str k.sign, .str (S t)] h) h (t.length + 1) (leafF t k) := by
  refine .tab ?_
  rw [show d + 3 = (d + 1) + 2 from rfl, table_of_sign_eq]
  unfold table_of_sign_s
  rw [len_str, S_len]
  simp only [Option.bind_some]
  rw [show d + 1 + 1 = d + 2 from rfl, blank_spec d (by lia)]
  simp only [Option.bind_some, bi_add, cast1]
  rw [rA1 (by lia)]
  simp only [Option.bind_some]
  obtain ⟨ρ1, h1, q1, ⟨g, rfl, hg⟩, h4, _⟩ := loop_range (n := t.length + 1) (f := table_of_sign_l14 (d + 1) h.length) (fun I ρ' h' => (∃ g, h' = tabAt h (mat (t.length + 1) g) ∧ ∀ i', i' < t.length + 1 → ∀ j', j' < t.length + 1 → g i' j' = (decide (i' < I) && leafF t k i' j')) ∧ ρ' n_table = some (.ref h.length) ∧ ρ' n_kind = some (.str k.kind) ∧ ρ' n_c = some (.str k.sign) ∧ ρ' n_text = some (.str (S t)) ∧ ρ' n_n = some (.int t.length)) (fun i hi ρ' h' I => by
      obtain ⟨⟨g, rfl, hg⟩, i1, i2, i3, i4, i5⟩ := I
      have fin : ∀ g' : Bf, (∀ i', i' < t.length + 1 → ∀ j', j' < t.length + 1 → g' i' j' = if i' = i then leafF t k i' j' else g i' j') → ∃ ρ'' h'', some (Fl.next, upd ρ' n_i (V.int i), tabAt h (mat (t.length + 1) g')) = some (.next, ρ'', h'') ∧ ((∃ g, h'' = tabAt h (mat (t.length + 1) g) ∧ ∀ i', i' < t.length + 1 → ∀ j', j' < t.length + 1 → g i' j' = (decide (i' < i + 1) && leafF t k i' j')) ∧ ρ'' n_table = some (.ref h.length) ∧ ρ'' n_kind = some (.str k.kind) ∧ ρ'' n_c = some (.str k.sign) ∧ ρ'' n_text = some (.str (S t)) ∧ ρ'' n_n = some (.int t.length)) := fun g' hg' => by
        refine ⟨_, _, rfl, ⟨g', rfl, fun i' hi' j' hj' => ?_⟩, ?_, ?_, ?_, ?_, ?_⟩
        · rw [hg' i' hi' j' hj']
          by_cases e : i' = i
          · subst e; simp
          · rw [if_neg e, hg i' hi' j' hj']
            have : decide (i' < i + 1) = decide (i' < i) := by simp; lia
            rw [this]
        · simp only [upd, ne_table_of_sign, if_false]; exact i1
        · simp only [upd, ne_table_of_sign, if_false]; exact i2
        · simp only [upd, ne_table_of_sign, if_false]; exact i3
        · simp only [upd, ne_table_of_sign, if_false]; exact i4
        · simp only [upd, ne_table_of_sign, if_false]; exact i5
      have row0 : ∀ j', j' < t.length + 1 → g i j' = false := fun j' hj' => by rw [hg i hi j' hj']; simp
      unfold table_of_sign_l14
      simp (implicitDefEqProofs := false) only [i1, i2, i3, i4, i5, Option.bind_some, q_eps]
      cases he : k.isEps
      · simp (implicitDefEqProofs := false) only [Bool.false_eq_true, if_false, ci_lt]
        by_cases hlt : i < t.length
        · have hlt' : (i : Int) < t.length := by lia
          obtain ⟨c, hc⟩ : ∃ c, t[i]? = some c := ⟨t[i], List.getElem?_eq_getElem hlt⟩
          have hix : ∀ h : Hp, idx (.str (S t)) (.int i) h = some (.str ⟨#[c]⟩) := fun h => idx_str (by lia) (by show (t.toArray)[_]? = _; rw [List.getElem?_toArray]; simpa using hc)
          obtain ⟨u1, u2⟩ := tab_set (b := h.length) h g true hi (show i + 1 < t.length + 1 by lia) (Nat.le_refl _)
          simp (implicitDefEqProofs := false) only [hlt', decide_true, if_true, q_any, Option.bind_some]
          cases k with
          | any =>
            simp (implicitDefEqProofs := false) only [K8.isAny, if_true, Option.bind_some, u1, bi_add, cast1, u2]
            refine fin _ fun i' hi' j' hj' => ?_
            unfold updM
            by_cases e : i' = i
            · subst e
              simp only [true_and, if_true]
              show _ = mdot t i' j'
              unfold mdot
              rw [hc, row0 j' hj']
              by_cases e2 : j' = i' + 1 <;> simp [e2]
            · simp [e]
          | chr s =>
            simp (implicitDefEqProofs := false) only [K8.isAny, Bool.false_eq_true, if_false, Option.bind_some, hix, cs_eq, u1, bi_add, cast1, u2]
            rw [show K8.sign (.chr s) = s from rfl]
            cases hs : ((⟨#[c]⟩ : Str) == s)
            · simp only [Bool.false_eq_true, if_false]
              refine fin g fun i' hi' j' hj' => ?_
              by_cases e : i' = i
              · subst e
                rw [if_pos rfl, row0 j' hj']
                show _ = mchr t s i' j'
                unfold mchr
                rw [hc]
                simp [hs]
              · rw [if_neg e]
            · simp only [if_true]
              refine fin _ fun i' hi' j' hj' => ?_
              unfold updM
              by_cases e : i' = i
              · subst e
                simp only [true_and, if_true]
                show _ = mchr t s i' j'
                unfold mchr
                rw [hc, row0 j' hj']
                by_cases e2 : j' = i' + 1 <;> simp [e2, hs]
              · simp [e]
          | eps => cases he
          | _ => cases hk
        · have hlt' : ¬ (i : Int) < t.length := by lia
          simp only [hlt', decide_false, Bool.false_eq_true, if_false]
          refine fin g fun i' hi' j' hj' => ?_
          by_cases e : i' = i
          · subst e
            have hnone : t[i']? = none := List.getElem?_eq_none (by lia)
            rw [if_pos rfl, row0 j' hj']
            cases k with
            | any => show _ = mdot t i' j'; unfold mdot; rw [hnone]; simp
            | chr s => show _ = mchr t s i' j'; unfold mchr; rw [hnone]; simp
            | eps => cases he
            | _ => cases hk
          · rw [if_neg e]
      · obtain ⟨u1, u2⟩ := tab_set (b := h.length) h g true hi hi (Nat.le_refl _)
        simp (implicitDefEqProofs := false) only [if_true, u1, u2, Option.bind_some]
        cases k <;> cases he
        refine fin _ fun i' hi' j' hj' => ?_
        unfold updM
        by_cases e : i' = i
        · subst e
          simp only [true_and, if_true]
          show _ = meps (t.length + 1) i' j'
          unfold meps
          rw [row0 j' hj']
          by_cases e2 : j' = i'
          · subst e2; simp; lia
          · have : ¬ i' = j' := fun q => e2 q.symm
            simp [e2, this]
        · simp [e])
    (ρ := upd (upd (fun x => List.lookup x (List.zip [n_kind, n_c, n_text] [V.str k.kind, V.str k.sign, V.str (S t)]).reverse) n_n (.int t.length)) n_table (V.ref h.length)) (h := tabAt h (mat (t.length + 1) fun _ _ => false))
    ⟨⟨_, rfl, fun i' hi' j' hj' => by simp⟩, by simp only [upd, if_true], by simp only [upd, ne_table_of_sign, if_false]; rfl, by simp only [upd, ne_table_of_sign, if_false]; rfl, by simp only [upd, ne_table_of_sign, if_false]; rfl, by simp only [upd, ne_table_of_sign, if_false, if_true]⟩
  rw [q1]
  simp only [Option.bind_some, h4]
  rw [mat_ext (g := leafF t k) fun i hi j hj => by rw [hg i hi j hj]; simp [hi]]
end Mine
end

section
set_option autoImplicit false
set_option maxRecDepth 100000
namespace Mine
open PySem

theorem star_out (d : Nat) {h : Hp} {n : Nat} (hn : n ≤ 1000) (hn1 : 1 ≤ n) {aa loa : Nat} {A : Bf} (hA : IsTab h loa aa (mat n A)) : Out ((G (d + 4)).fn f_table_star [.ref aa] h) h n (mstar n A) := by
  rw [show d + 4 = (d + 2) + 2 from rfl, table_star_eq]
  unfold table_star_s
  rw [hA.len, mat_len]
  simp only [Option.bind_some, bi_sub]
  rw [show (n : Int) - 1 = ((n - 1 : Nat) : Int) by lia, show d + 2 + 1 = d + 1 + 2 from rfl, blank_spec (d + 1) (by lia), show n - 1 + 1 = n by lia]
  simp only [Option.bind_some]
  rw [rA1 (by lia)]
  simp only [Option.bind_some]
  obtain ⟨ρ1, h1, q1, ⟨g, rfl, hg⟩, h4, h5, h6⟩ := loop_range (n := n) (f := table_star_l91 (d + 2) h.length) (fun I ρ' h' => (∃ g, h' = tabAt h (mat n g) ∧ ∀ i', i' < n → ∀ j', j' < n → g i' j' = (decide (i' < I) && meps n i' j')) ∧ ρ' n_table = some (.ref h.length) ∧ ρ' n_a = some (.ref aa) ∧ ρ' n_size = some (.int n)) (fun i hi ρ' h' I => by
      obtain ⟨⟨g, rfl, hg⟩, i1, i2, i3⟩ := I
      obtain ⟨u1, u2⟩ := tab_set (b := h.length) h g true hi hi (Nat.le_refl _)
      unfold table_star_l91
      simp only [i1, Option.bind_some, u1, u2]
      refine ⟨_, _, rfl, ⟨_, rfl, fun i' hi' j' hj' => ?_⟩, ?_, ?_, ?_⟩
      · unfold updM
        rw [hg i' hi' j' hj']
        unfold meps
        by_cases e : i' = i
        · subst e
          by_cases e2 : j' = i'
          · subst e2; simp [hi]
          · have : ¬ i' = j' := fun q => e2 q.symm
            simp [e2, this]
        · have : decide (i' < i + 1) = decide (i' < i) := by simp; lia
          simp [e, this]
      · simp only [upd, ne_table_star, if_false]; exact i1
      · simp only [upd, ne_table_star, if_false]; exact i2
      · simp only [upd, ne_table_star, if_false]; exact i3)
    (ρ := upd (upd (fun x => List.lookup x (List.zip [n_a] [V.ref aa]).reverse) n_size (.int n)) n_table (V.ref h.length)) (h := tabAt h (mat n fun _ _ => false))
    ⟨⟨_, rfl, fun i' hi' j' hj' => by simp⟩, by simp only [upd, if_true], by simp only [upd, ne_table_star, if_false]; rfl, by simp only [upd, ne_table_star, if_false, if_true]⟩
  rw [q1]
  simp only [Option.bind_some, h6]
  rw [rA1 (by lia)]
  simp only [Option.bind_some]
  have hm : mat n g = mat n (mit n A 0) := mat_ext fun i hi j hj => by rw [hg i hi j hj]; simp [hi]; rfl
  obtain ⟨ρ2, h2, q2, r, L, ht, rfl, hI, _⟩ := loop_range (n := n) (f := table_star_l99 (d + 2) h.length) (fun m ρ' h' => ∃ r L, ρ' n_table = some (.ref r) ∧ h' = h ++ L ∧ IsTab h' h.length r (mat n (mit n A m)) ∧ ρ' n_a = some (.ref aa)) (fun m hm ρ' h' I => by
      obtain ⟨r, L, i1, rfl, i2, i3⟩ := I
      obtain ⟨r1, L1, c1, c2⟩ := cat_out d hn hn1 i2 (hA.app L)
      obtain ⟨r2, L2, a1, a2⟩ := alt_out (d + 1) hn (i2.app L1) c2
      unfold table_star_l99
      simp only [i1, i3, Option.bind_some, show d + 2 + 1 = d + 3 from rfl, c1]
      rw [show d + 3 = d + 1 + 2 from rfl, a1]
      refine ⟨_, _, rfl, r2, L ++ L1 ++ L2, by simp [upd], by simp, a2.lower (by simp), ?_⟩
      simp only [upd, ne_table_star, if_false]; exact i3)
    (ρ := ρ1) (h := tabAt h (mat n g)) ⟨h.length, _, h4, rfl, by rw [← hm]; exact tabAt_is h (mat n g), h5⟩
  rw [q2]
  simp only [Option.bind_some, ht]
  exact ⟨r, L, rfl, hI⟩

/-! the meaning -/
inductive TStk (h : Hp) (lo n : Nat) : List Nat → List Bf → Prop
  | nil : TStk h lo n [] []
  | cons {r rs f fs} : IsTab h lo r (mat n f) → TStk h lo n rs fs → TStk h lo n (r :: rs) (f :: fs)
theorem TStk.app {h : Hp} {lo n : Nat} {rs : List Nat} {fs : List Bf} (x : TStk h lo n rs fs) (L : Hp) : TStk (h ++ L) lo n rs fs := by
  induction x with
  | nil => exact .nil
  | cons t _ ih => exact .cons (t.app L) ih
theorem TStk.set {h : Hp} {lo n a : Nat} {rs : List Nat} {fs : List Bf} (x : TStk h lo n rs fs) (ha : a < lo) (ys : List V) : TStk (h.set a ys) lo n rs fs := by
  induction x with
  | nil => exact .nil
  | cons t _ ih => exact .cons (t.set ha ys) ih
noncomputable def rfs (rs : List Nat) : List V := (rs.map V.ref).reverse
theorem rfs_cons (r : Nat) (rs : List Nat) : rfs (r :: rs) = rfs rs ++ [V.ref r] := by simp [rfs]
theorem rfs_cons2 (r l : Nat) (rs : List Nat) : rfs (r :: l :: rs) = rfs rs ++ [V.ref l, V.ref r] := by simp [rfs]
structure MI (h : Hp) (t : List Nat) (rs : List Nat) (fs : List Bf) (ρ : Rho) (h' : Hp) : Prop where
  stack : ρ n_stack = some (.ref h.length)
  text : ρ n_text = some (.str (S t))
  pre : ∃ L, h' = h ++ L
  at_ : h'[h.length]? = some (rfs rs)
  tabs : TStk h' (h.length + 1) (t.length + 1) rs fs
  small : rs.length ≤ 100000
theorem pre_set {h h' : Hp} (x : ∃ L, h' = h ++ L) (ys : List V) : ∃ L, h'.set h.length ys = h ++ L := by
  obtain ⟨L, rfl⟩ := x
  cases L with
  | nil => exact ⟨[], by rw [List.append_nil, List.set_eq_of_length_le (Nat.le_refl _)]⟩
  | cons y L => exact ⟨ys :: L, set_mid ..⟩
section
variable {h : Hp} {t : List Nat} {rs : List Nat} {fs : List Bf} {ρ : Rho} {h' : Hp} {b : Nat}
theorem MI.lt (I : MI h t rs fs ρ h') : h.length < h'.length := (List.getElem?_eq_some_iff.mp I.at_).1
/-- the stack is changed; behind it all stands -/
theorem MI.put (I : MI h t rs fs ρ h') (L1 : Hp) {rs' : List Nat} {fs' : List Bf} {ρ' : Rho} (h1 : ρ' n_stack = some (.ref h.length)) (h2 : ρ' n_text = some (.str (S t))) (hT : TStk (h' ++ L1) (h.length + 1) (t.length + 1) rs' fs') (hl : rs'.length ≤ 100000) : MI h t rs' fs' ρ' ((h' ++ L1).set h.length (rfs rs')) := by
  have hlt := I.lt
  refine ⟨h1, h2, pre_set (by obtain ⟨L, rfl⟩ := I.pre; exact ⟨L ++ L1, by simp⟩) _, ?_, hT.set (by lia) _, hl⟩
  rw [List.getElem?_set_self (by simp; lia)]
end
noncomputable def K8.isChr : K8 → Bool | .chr _ => true | _ => false
noncomputable def K8.isStar : K8 → Bool | .star => true | _ => false
section
variable (k : K8) (h : Hp)
theorem e_chr : cmpop .Eq (.str k.kind) (V.str ⟨#[99, 104, 114]⟩) h = some k.isChr := by cases k <;> kernel_rfl
theorem e_star : cmpop .Eq (.str k.kind) (V.str ⟨#[115, 116, 97, 114]⟩) h = some k.isStar := by cases k <;> kernel_rfl
theorem e_plus : cmpop .Eq (.str k.kind) (V.str ⟨#[112, 108, 117, 115]⟩) h = some k.isPlus := by cases k <;> kernel_rfl
theorem e_opt : cmpop .Eq (.str k.kind) (V.str ⟨#[111, 112, 116]⟩) h = some k.isOpt := by cases k <;> kernel_rfl
end
section
variable {h : Hp} {t : List Nat} {rs : List Nat} {fs : List Bf} {ρ : Rho} {h' : Hp} {d : Nat}
/-- the names of a turn -/
structure ME (h : Hp) (t : List Nat) (k : K8) (ρ : Rho) : Prop where
  stack : ρ n_stack = some (.ref h.length)
  text : ρ n_text = some (.str (S t))
  item : ρ n_item = some k.tup
  kind : ρ n_kind = some (.str k.kind)
theorem MD (k : K8) {b : Nat} {ρ2 : Rho} (hρ : upd (upd ρ n_item k.tup) n_kind (.str k.kind) = ρ2) : means_l109 d b k.tup ρ h = if k.isLeaf then means_b117 d b ρ2 h else if k.isStar then means_b125 d b ρ2 h else if k.isPlus then means_b137 d b ρ2 h else if k.isOpt then means_b147 d b ρ2 h else means_b176 d b ρ2 h := by
  have hk : ρ2 n_kind = some (.str k.kind) := by rw [← hρ]; exact us
  unfold means_l109 means_b191
  simp (implicitDefEqProofs := false) only [us, Option.bind_some, k_idx0, hρ]
  unfold means_b188 means_b185 means_b182 means_b179
  simp (implicitDefEqProofs := false) only [hk, Option.bind_some, q_leaf, e_star, e_plus, e_opt]
/-- what a turn leaves -/
noncomputable def MOut (h : Hp) (t : List Nat) (n : Nat) (fs' : List Bf) (r : Option (Fl × Rho × Hp)) : Prop := ∃ ρ' h'' rs', r = some (.next, ρ', h'') ∧ MI h t rs' fs' ρ' h'' ∧ rs'.length ≤ n
theorem setTop {x r : Nat} {rs0 : List Nat} (L1 : Hp) {hh : Hp} (q : hh[h.length]? = some (rfs (x :: rs0))) : setIdx h.length (.ref h.length) (.int (-1)) (.ref r) (hh ++ L1) = some ((hh ++ L1).set h.length (rfs (r :: rs0))) := by
  rw [rfs_cons] at q
  rw [setIdx_m1 (get_pre L1 q) (Nat.le_refl _), ← rfs_cons]
theorem getTop {x : Nat} {rs0 : List Nat} {hh : Hp} (q : hh[h.length]? = some (rfs (x :: rs0))) : idx (.ref h.length) (.int (-1)) hh = some (.ref x) := idx_m1 (xs := rfs rs0) (by rw [q, rfs_cons])
theorem lowT {hh : Hp} {r : Nat} {M : List (List Bool)} (hlt : h.length < h'.length) (x : IsTab hh h'.length r M) : IsTab hh (h.length + 1) r M := x.lower hlt
theorem m117 {k : K8} (ht : t.length ≤ 100) (hr : rs.length ≤ 1000) (hl : k.isLeaf = true) (N : ME h t k ρ) (I : MI h t rs fs ρ h') : MOut h t (rs.length + 1) (leafF t k :: fs) (means_b117 (d + 3) h.length ρ h') := by
  obtain ⟨r, L1, s1, s2⟩ := sign_out (d + 1) (h := h') (t := t) k hl ht
  unfold means_b117
  simp (implicitDefEqProofs := false) only [N.item, N.kind, k_idx1, Option.bind_some, N.stack, N.text, show d + 3 + 1 = d + 1 + 3 from rfl, s1, append_ref _ _ (V.ref r) (get_pre L1 I.at_) (Nat.le_refl _) (show (rfs rs).length ≤ 1000000 by simp [rfs]; lia), isN, ← rfs_cons, if_true, finN]
  exact ⟨_, _, r :: rs, rfl, I.put L1 N.stack N.text (.cons (lowT I.lt s2) (I.tabs.app L1)) (by simp; lia), Nat.le_refl _⟩
theorem m125 {k : K8} {x : Nat} {f : Bf} (ht : t.length ≤ 100) (hr : rs.length ≤ 1000) (N : ME h t k ρ) (I : MI h t (x :: rs) (f :: fs) ρ h') : MOut h t (rs.length + 1) (mstar (t.length + 1) f :: fs) (means_b125 (d + 3) h.length ρ h') := by
  have T := I.tabs
  cases T with | cons X T =>
  obtain ⟨r, L1, s1, s2⟩ := star_out d (show t.length + 1 ≤ 1000 by lia) (by lia) X
  unfold means_b125
  simp (implicitDefEqProofs := false) only [Option.bind_some, N.stack, um1, getTop I.at_, show d + 3 + 1 = d + 4 from rfl, s1, setTop L1 I.at_, finN]
  exact ⟨_, _, r :: rs, rfl, I.put L1 N.stack N.text (.cons (lowT I.lt s2) (T.app L1)) (by simp; lia), Nat.le_refl _⟩
theorem m137 {k : K8} {x : Nat} {f : Bf} (ht : t.length ≤ 100) (hr : rs.length ≤ 1000) (N : ME h t k ρ) (I : MI h t (x :: rs) (f :: fs) ρ h') : MOut h t (rs.length + 1) (mcat (t.length + 1) f (mstar (t.length + 1) f) :: fs) (means_b137 (d + 3) h.length ρ h') := by
  have T := I.tabs
  have hlt := I.lt
  cases T with | cons X T =>
  obtain ⟨r, L1, s1, s2⟩ := star_out d (show t.length + 1 ≤ 1000 by lia) (by lia) X
  obtain ⟨r5, L2, c1, c2⟩ := cat_out (d + 1) (show t.length + 1 ≤ 1000 by lia) (by lia) (X.app L1) s2
  have c1' : (G (d + 4)).fn f_table_cat [.ref x, .ref r] (h' ++ L1) = some (.ref r5, h' ++ L1 ++ L2) := c1
  have st : setIdx h.length (.ref h.length) (.int (-1)) (.ref r5) (h' ++ L1 ++ L2) = some ((h' ++ (L1 ++ L2)).set h.length (rfs (r5 :: rs))) := by rw [List.append_assoc]; exact setTop _ I.at_
  unfold means_b137
  simp (implicitDefEqProofs := false) only [Option.bind_some, N.stack, um1, getTop I.at_, show d + 3 + 1 = d + 4 from rfl, s1, c1', st, finN]
  refine ⟨_, _, r5 :: rs, rfl, I.put (L1 ++ L2) N.stack N.text (.cons ?_ (T.app _)) (by simp; lia), Nat.le_refl _⟩
  rw [← List.append_assoc]; exact c2.lower (by rw [List.length_append]; lia)
theorem m147 {k : K8} {x : Nat} {f : Bf} (ht : t.length ≤ 100) (hr : rs.length ≤ 1000) (N : ME h t k ρ) (I : MI h t (x :: rs) (f :: fs) ρ h') : MOut h t (rs.length + 1) (malt f (meps (t.length + 1)) :: fs) (means_b147 (d + 3) h.length ρ h') := by
  have T := I.tabs
  have hlt := I.lt
  cases T with | cons X T =>
  obtain ⟨r, L1, s1, s2⟩ := sign_out (d + 1) (h := h') (t := t) .eps rfl ht
  obtain ⟨r5, L2, c1, c2⟩ := alt_out (d + 2) (show t.length + 1 ≤ 1000 by lia) (X.app L1) s2
  have c1' : (G (d + 4)).fn f_table_alt [.ref x, .ref r] (h' ++ L1) = some (.ref r5, h' ++ L1 ++ L2) := c1
  have s1' : (G (d + 4)).fn f_table_of_sign [(V.str ⟨#[101, 112, 115]⟩), (V.str ⟨#[]⟩), .str (S t)] h' = some (.ref r, h' ++ L1) := s1
  have st : setIdx h.length (.ref h.length) (.int (-1)) (.ref r5) (h' ++ L1 ++ L2) = some ((h' ++ (L1 ++ L2)).set h.length (rfs (r5 :: rs))) := by rw [List.append_assoc]; exact setTop _ I.at_
  unfold means_b147
  simp (implicitDefEqProofs := false) only [Option.bind_some, N.stack, N.text, um1, getTop I.at_, show d + 3 + 1 = d + 4 from rfl, s1', c1', st, finN]
  refine ⟨_, _, r5 :: rs, rfl, I.put (L1 ++ L2) N.stack N.text (.cons ?_ (T.app _)) (by simp; lia), Nat.le_refl _⟩
  rw [← List.append_assoc]; exact c2.lower (by rw [List.length_append]; lia)
theorem m176 {k : K8} {x y : Nat} {f g : Bf} (ht : t.length ≤ 100) (hr : rs.length ≤ 1000) (N : ME h t k ρ) (I : MI h t (x :: y :: rs) (g :: f :: fs) ρ h') : MOut h t (rs.length + 1) ((if k.isCat then mcat (t.length + 1) f g else malt f g) :: fs) (means_b176 (d + 3) h.length ρ h') := by
  have T := I.tabs
  have hlt := I.lt
  have hat := I.at_
  cases T with | cons X T =>
  cases T with | cons Y T =>
  have hl2 : h.length < h.length + 1 := Nat.lt_succ_self _
  have X' := X.set (x := h.length) hl2 (rfs (y :: rs))
  have Y' := Y.set (x := h.length) hl2 (rfs (y :: rs))
  have T' := T.set (a := h.length) hl2 (rfs (y :: rs))
  have sec : idx (.ref h.length) (.int (-2)) h' = some (.ref y) := idx_m2 (xs := rfs rs) (v := .ref x) (by rw [hat, rfs_cons2])
  have del : delIdx h.length (.ref h.length) (.int (-1)) h' = some (h'.set h.length (rfs (y :: rs))) := delIdx_m1 (v := .ref x) (by rw [hat, rfs_cons]) (Nat.le_refl _)
  have at2 : (h'.set h.length (rfs (y :: rs)))[h.length]? = some (rfs (y :: rs)) := by rw [List.getElem?_set_self hlt]
  have I2 : MI h t (y :: rs) (f :: fs) ρ (h'.set h.length (rfs (y :: rs))) := ⟨I.stack, I.text, pre_set I.pre _, at2, .cons Y' T', by simp; lia⟩
  generalize hρ : upd (upd ρ n_left (.ref y)) n_right (.ref x) = ρ3
  have p1 : ρ3 n_stack = some (.ref h.length) := by rw [← hρ]; exact (un (by decide)).trans ((un (by decide)).trans N.stack)
  have p2 : ρ3 n_text = some (.str (S t)) := by rw [← hρ]; exact (un (by decide)).trans ((un (by decide)).trans N.text)
  have p3 : ρ3 n_kind = some (.str k.kind) := by rw [← hρ]; exact (un (by decide)).trans ((un (by decide)).trans N.kind)
  have p4 : ρ3 n_left = some (.ref y) := by rw [← hρ]; exact (un (by decide)).trans us
  have p5 : ρ3 n_right = some (.ref x) := by rw [← hρ]; exact us
  have st2 : upd ρ n_left (.ref y) n_stack = some (.ref h.length) := (un (by decide)).trans N.stack
  have ev : means_b176 (d + 3) h.length ρ h' = if k.isCat then means_b154 (d + 3) h.length ρ3 (h'.set h.length (rfs (y :: rs))) else means_b161 (d + 3) h.length ρ3 (h'.set h.length (rfs (y :: rs))) := by
    unfold means_b176; simp (implicitDefEqProofs := false) only [N.stack, Option.bind_some, um2, sec]
    unfold means_b172; simp (implicitDefEqProofs := false) only [st2, Option.bind_some, um1, getTop hat, hρ]
    unfold means_b168; simp (implicitDefEqProofs := false) only [p1, Option.bind_some, um1, del]
    unfold means_b164; simp (implicitDefEqProofs := false) only [p3, Option.bind_some, q_cat]
  rw [ev]
  cases k.isCat
  · obtain ⟨r, L1, s1, s2⟩ := alt_out (d + 2) (show t.length + 1 ≤ 1000 by lia) Y' X'
    simp (implicitDefEqProofs := false) only [Bool.false_eq_true, if_false]
    unfold means_b161; simp (implicitDefEqProofs := false) only [p1, p4, p5, Option.bind_some, um1, show d + 3 + 1 = d + 2 + 2 from rfl, s1, setTop L1 at2, finN]
    exact ⟨_, _, r :: rs, rfl, I2.put L1 p1 p2 (.cons (s2.lower (by rw [List.length_set]; lia)) (T'.app L1)) (by simp; lia), Nat.le_refl _⟩
  · obtain ⟨r, L1, s1, s2⟩ := cat_out (d + 1) (show t.length + 1 ≤ 1000 by lia) (by lia) Y' X'
    simp (implicitDefEqProofs := false) only [if_true]
    unfold means_b154; simp (implicitDefEqProofs := false) only [p1, p4, p5, Option.bind_some, um1, show d + 3 + 1 = d + 1 + 3 from rfl, s1, setTop L1 at2, finN]
    exact ⟨_, _, r :: rs, rfl, I2.put L1 p1 p2 (.cons (s2.lower (by rw [List.length_set]; lia)) (T'.app L1)) (by simp; lia), Nat.le_refl _⟩
end
theorem means_step (d : Nat) {h : Hp} {t : List Nat} {rs : List Nat} {fs fs' : List Bf} {ρ : Rho} {h' : Hp} {k : K8} (ht : t.length ≤ 100) (hr : rs.length ≤ 1000) (I : MI h t rs fs ρ h') (hk : smStep t k fs = some fs') :
    MOut h t (rs.length + 1) fs' (means_l109 (d + 3) h.length k.tup ρ h') := by
  generalize hρ : upd (upd ρ n_item k.tup) n_kind (.str k.kind) = ρ2
  have N : ME h t k ρ2 := by
    rw [← hρ]
    exact ⟨(un (by decide)).trans ((un (by decide)).trans I.stack), (un (by decide)).trans ((un (by decide)).trans I.text), (un (by decide)).trans us, us⟩
  have I2 : MI h t rs fs ρ2 h' := ⟨N.stack, N.text, I.pre, I.at_, I.tabs, I.small⟩
  have more : ∀ {n m : Nat} {fs' : List Bf} {r : Option (Fl × Rho × Hp)}, n ≤ m → MOut h t n fs' r → MOut h t m fs' r := fun hnm ⟨a, b, c, e, f, g⟩ => ⟨a, b, c, e, f, Nat.le_trans g hnm⟩
  rw [MD k hρ]
  cases k with
  | chr s => cases hk; exact m117 (k := .chr s) ht hr rfl N I2
  | any => cases hk; exact m117 (k := .any) ht hr rfl N I2
  | eps => cases hk; exact m117 (k := .eps) ht hr rfl N I2
  | star => have T := I.tabs; cases T with
    | nil => cases hk
    | cons X T => cases hk; exact more (by simp) (m125 ht (by simp at hr; lia) N I2)
  | plus => have T := I.tabs; cases T with
    | nil => cases hk
    | cons X T => cases hk; exact more (by simp) (m137 ht (by simp at hr; lia) N I2)
  | opt => have T := I.tabs; cases T with
    | nil => cases hk
    | cons X T => cases hk; exact more (by simp) (m147 ht (by simp at hr; lia) N I2)
  | cat => have T := I.tabs; cases T with
    | nil => cases hk
    | cons X T => cases T with
      | nil => cases hk
      | cons Y T => cases hk; exact more (by simp) (m176 ht (by simp at hr; lia) N I2)
  | alt => have T := I.tabs; cases T with
    | nil => cases hk
    | cons X T => cases T with
      | nil => cases hk
      | cons Y T => cases hk; exact more (by simp) (m176 ht (by simp at hr; lia) N I2)

theorem means_spec (d : Nat) {h : Hp} {a0 : Nat} {ks : List K8} {t : List Nat} {f : Bf} (ha : h[a0]? = some (ks.map K8.tup)) (hs : sms t ks [] = some [f]) (hn : ks.length ≤ 90) (ht : t.length ≤ 100) :
    ∃ L, (G (d + 5)).fn f_means [.ref a0, .str (S t)] h = some (.bool (f 0 t.length), h ++ L) := by
  rw [show d + 5 = (d + 3) + 2 from rfl, means_eq]
  unfold means_s
  have hi : itemsOf (.ref a0) (h ++ [[]]) = some (ks.map K8.tup, some a0) := by simp only [itemsOf, get_pre _ ha, Option.map_some]
  simp only [hi, Option.bind_some]
  have keep : ∀ {h' : Hp}, (∃ L, h' = h ++ L) → h'[a0]? = some (ks.map K8.tup) := fun ⟨L, e⟩ => by subst e; exact get_pre L ha
  obtain ⟨ρ', h', e1, rs, fs, I, _, hr⟩ := loopS_rule (c := some a0) (all := ks.map K8.tup) (f := means_l109 (d + 3) h.length) (fun i ρ h' => ∃ rs fs, MI h t rs fs ρ h' ∧ rs.length ≤ i ∧ sms t (ks.drop i) fs = some [f])
    (fun i x ρ h' hx hi => by
      obtain ⟨rs, fs, I, hl, hr⟩ := hi
      rw [List.getElem?_map] at hx
      obtain ⟨k, hk, rfl⟩ := Option.map_eq_some_iff.mp hx
      have hlt := (List.getElem?_eq_some_iff.mp hk).1
      obtain ⟨fs', h2, h3⟩ := sms_drop hk hr
      obtain ⟨ρ', h'', rs', e, I', hl'⟩ := means_step d ht (by lia) I h2
      exact ⟨chk_some (keep I.pre), ρ', h'', .inl e, rs', fs', I', by lia, h3⟩)
    (fun ρ h' hi => by
      obtain ⟨rs, fs, I, _⟩ := hi
      exact chk_some (keep I.pre))
    (ρ := upd (fun x => List.lookup x (List.zip [n_post, n_text] [V.ref a0, V.str (S t)]).reverse) n_stack (V.ref h.length)) (h := h ++ [[]])
    ⟨[], [], ⟨us, (un (by decide)).trans rfl, ⟨_, rfl⟩, get_last h _, .nil, by simp⟩, by simp, hs⟩
  rw [e1]
  rw [List.length_map, List.drop_length] at hr
  cases hr
  have T := I.tabs
  have hat := I.at_
  obtain ⟨L, hL⟩ := I.pre
  cases T with
  | @cons x rs0 f fs0 X T =>
    cases T
    have top : idx (.ref h.length) (.int (-1)) h' = some (.ref x) := idx_m1 (xs := rfs []) (by rw [hat, rfs_cons])
    obtain ⟨r, _, c1, c2⟩ := X.cell (show 0 < t.length + 1 by lia) (show t.length < t.length + 1 by lia)
    rw [show ((0 : Nat) : Int) = 0 from rfl] at c1
    simp only [Option.bind_some, I.stack, I.text, um1, top, c1, len_str, S_len, c2]
    exact ⟨L, by rw [hL]⟩
end Mine
end

section
set_option autoImplicit false
set_option maxRecDepth 100000
namespace Mine
open PySem

/-! the backtracker: pairs of a state and a place -/
abbrev Pr2 := Nat × Nat
noncomputable def pV (P : List Pr2) : List V := P.map prV
noncomputable def bk (h : Hp) (T R : List Pr2) : Hp := h ++ [pV T, pV R]
theorem rd_pr (n : Nat) (h : Hp) (p : Pr2) : rd (n + 1) h (prV p) = some (.tuple [.int p.1, .int p.2]) := by cases n <;> rfl
theorem rd_pV (n : Nat) (h : Hp) : ∀ P : List Pr2, rdAll (rd (n + 1) h) (pV P) = some (P.map fun p => PyData.tuple [.int p.1, .int p.2])
  | [] => rfl
  | p :: P => by
    show ((rd (n + 1) h (prV p)).bind fun d => (rdAll (rd (n + 1) h) (pV P)).map (d :: ·)) = _
    rw [rd_pr, rd_pV n h P]; rfl
theorem eqv_pr (p q : Pr2) : PyData.eqv (.tuple [.int p.1, .int p.2]) (.tuple [.int q.1, .int q.2]) = decide (p = q) := by
  have e : PyData.eqv (.tuple [.int p.1, .int p.2]) (.tuple [.int q.1, .int q.2]) = (((p.1 : Int) == q.1) && (((p.2 : Int) == q.2) && true)) := rfl
  rw [e, Bool.eq_iff_iff]
  obtain ⟨a, b⟩ := p
  obtain ⟨c, d⟩ := q
  simp only [Bool.and_true, Bool.and_eq_true, beq_iff_eq, decide_eq_true_eq, Prod.mk.injEq]
  omega
section
variable {h : Hp} {T R : List Pr2} {b : Nat}
theorem bk_t : (bk h T R)[h.length]? = some (pV T) := by simp [bk]
theorem bk_r : (bk h T R)[h.length + 1]? = some (pV R) := by simp [bk]
theorem pV_app (T : List Pr2) (x : Pr2) : pV T ++ [prV x] = pV (T ++ [x]) := by simp [pV]
theorem bk_push (x : Pr2) (hb : b ≤ h.length) (hl : T.length ≤ 100000) : callM b m_append (.ref h.length) [prV x] (bk h T R) = some (.none, bk h (T ++ [x]) R) := by
  rw [append_ref _ _ _ bk_t hb (by simp [pV]; lia), pV_app]
  exact congrArg (fun z => some (V.none, z)) (set_mid ..)
theorem bk_try (x : Pr2) (hb : b ≤ h.length) (hl : R.length ≤ 100000) : callM b m_append (.ref (h.length + 1)) [prV x] (bk h T R) = some (.none, bk h T (R ++ [x])) := by
  rw [append_ref _ _ _ bk_r (by lia) (by simp [pV]; lia), pV_app]
  exact congrArg (fun z => some (V.none, z)) set2
theorem bk_top (x : Pr2) : idx (.ref h.length) (.int (-1)) (bk h (T ++ [x]) R) = some (prV x) := idx_m1 (xs := pV T) (by rw [bk_t, ← pV_app])
theorem bk_del (x : Pr2) (hb : b ≤ h.length) : delIdx b (.ref h.length) (.int (-1)) (bk h (T ++ [x]) R) = some (bk h T R) := by
  rw [delIdx_m1 (xs := pV T) (v := prV x) (by rw [bk_t, ← pV_app]) hb]
  exact congrArg some (set_mid ..)
theorem bk_len : callB b_len [.ref h.length] (bk h T R) = some (.int T.length, bk h T R) := by rw [len_ref _ bk_t]; simp [pV]
theorem bk_in (x : Pr2) : cmpop .In (prV x) (.ref (h.length + 1)) (bk h T R) = some (decide (x ∈ R)) := by
  show (((bk h T R)[h.length + 1]?).bind fun vs => (rd 8 (bk h T R) (prV x)).bind fun d => (rdAll (rd 8 (bk h T R)) vs).map fun ds => ds.any fun y => PyData.eqv y d) = _
  rw [bk_r]
  simp only [Option.bind_some, rd_pr, rd_pV, Option.map_some]
  congr 1
  rw [Bool.eq_iff_iff]
  simp only [List.any_map, List.any_eq_true, Function.comp_def, eqv_pr, decide_eq_true_eq]
  exact ⟨fun ⟨y, hy, e⟩ => e ▸ hy, fun hx => ⟨x, hx, rfl⟩⟩
end

/-- where an edge leads from the place i -/
noncomputable def succ1 (t : List Nat) (i : Nat) (x : Edge) : List Pr2 :=
  if x.1 = sE then [(x.2, i)] else if i < t.length ∧ (x.1 = sDot ∨ x.1 = ⟨#[t.getD i 0]⟩) then [(x.2, i + 1)] else []
theorem succ1_len (t : List Nat) (i : Nat) (x : Edge) : (succ1 t i x).length ≤ 1 := by
  unfold succ1
  by_cases h1 : x.1 = sE
  · rw [if_pos h1]; exact Nat.le_refl _
  · rw [if_neg h1]
    by_cases h2 : i < t.length ∧ (x.1 = sDot ∨ x.1 = ⟨#[t.getD i 0]⟩)
    · rw [if_pos h2]; exact Nat.le_refl _
    · rw [if_neg h2]; exact Nat.zero_le _
theorem getD_of {t : List Nat} {i c : Nat} (h : t[i]? = some c) : t.getD i 0 = c := by rw [List.getD_eq_getElem?_getD, h]; rfl
theorem est_succ {t : List Nat} {E : List (List Edge)} {u i v j : Nat} : Est t E u i v j ↔ ∃ es, E[u]? = some es ∧ ∃ x ∈ es, (v, j) ∈ succ1 t i x := by
  constructor
  · rintro ⟨es, l, h1, h2, h | ⟨c, hc, h, h'⟩⟩
    · refine ⟨es, h1, (l, v), h2, ?_⟩
      unfold succ1
      rw [if_pos h.1, h.2]
      exact List.mem_singleton.mpr rfl
    · refine ⟨es, h1, (l, v), h2, ?_⟩
      have hne : ¬ l = sE := by rcases h with rfl | rfl <;> (intro q; cases q)
      have hlt := (List.getElem?_eq_some_iff.mp hc).1
      have hcond : i < t.length ∧ (l = sDot ∨ l = ⟨#[t.getD i 0]⟩) := ⟨hlt, by rw [getD_of hc]; exact h.symm⟩
      unfold succ1
      rw [if_neg hne, if_pos hcond, h']
      exact List.mem_singleton.mpr rfl
  · rintro ⟨es, h1, x, h2, h3⟩
    unfold succ1 at h3
    by_cases q1 : x.1 = sE
    · rw [if_pos q1] at h3
      cases List.mem_singleton.mp h3
      exact ⟨es, x.1, h1, h2, .inl ⟨q1, rfl⟩⟩
    · rw [if_neg q1] at h3
      by_cases q2 : i < t.length ∧ (x.1 = sDot ∨ x.1 = ⟨#[t.getD i 0]⟩)
      · rw [if_pos q2] at h3
        cases List.mem_singleton.mp h3
        have hc : t[i]? = some t[i] := List.getElem?_eq_getElem q2.1
        exact ⟨es, x.1, h1, h2, .inr ⟨t[i], hc, by rw [← getD_of hc]; exact q2.2.symm, rfl⟩⟩
      · rw [if_neg q2] at h3; cases h3

theorem ed0' (x : Edge) (h : Hp) : idx (edgeV x) (.int 0) h = some (.str x.1) := rfl
theorem ed1' (x : Edge) (h : Hp) : idx (edgeV x) (.int 1) h = some (.int x.2) := rfl
/-- what a turn knows -/
structure BK (h : Hp) (e s a : Nat) (t : List Nat) (ρ : Rho) : Prop where
  edges : ρ n_edges = some (.ref e)
  nfa : ρ n_nfa = some (.tup [.int s, .int a, .ref e])
  text : ρ n_text = some (.str (S t))
  n : ρ n_n = some (.int t.length)
  todo : ρ n_todo = some (.ref h.length)
  tried : ρ n_tried = some (.ref (h.length + 1))
theorem BK.upd {h : Hp} {e s a : Nat} {t : List Nat} {ρ : Rho} (x : BK h e s a t ρ) {y : Str} (hy : y = n_k ∨ y = n_here ∨ y = n_s ∨ y = n_i ∨ y = n_e) (v : V) : BK h e s a t (upd ρ y v) := by
  rcases hy with rfl | rfl | rfl | rfl | rfl <;>
    exact ⟨(un (by decide)).trans x.edges, (un (by decide)).trans x.nfa, (un (by decide)).trans x.text, (un (by decide)).trans x.n, (un (by decide)).trans x.todo, (un (by decide)).trans x.tried⟩

section
variable {h : Hp} {e s a b : Nat} {t : List Nat} {ρ : Rho} {T R : List Pr2}
/-- one edge -/
theorem bt_edge (d : Nat) (x : Edge) {i : Nat} (K : BK h e s a t ρ) (hi : ρ n_i = some (.int i)) (hb : b ≤ h.length) (hT : T.length ≤ 100000) :
    backtrack_accepts_l390 d b (edgeV x) ρ (bk h T R) = some (.next, upd ρ n_e (edgeV x), bk h (T ++ succ1 t i x) R) := by
  have K' := K.upd (y := n_e) (.inr (.inr (.inr (.inr rfl)))) (edgeV x)
  have he : upd ρ n_e (edgeV x) n_e = some (edgeV x) := us
  have hi' : upd ρ n_e (edgeV x) n_i = some (.int i) := (un (by decide)).trans hi
  unfold backtrack_accepts_l390
  generalize upd ρ n_e (edgeV x) = ρ' at K' he hi'
  have fin : backtrack_accepts_b403 d b ρ' (bk h T R) = some (.next, ρ', bk h (T ++ [(x.2, i + 1)]) R) := by
    have e1 : callM b m_append (.ref h.length) [V.tup [.int x.2, .int ((i : Int) + 1)]] (bk h T R) = some (.none, bk h (T ++ [(x.2, i + 1)]) R) := bk_push (x.2, i + 1) hb hT
    unfold backtrack_accepts_b403
    simp only [K'.todo, he, ed1', hi', Option.bind_some, bi_add, e1, isN, if_true, finN]
  unfold backtrack_accepts_b420
  simp only [he, ed0', Option.bind_some, cs_eq, show (V.str ⟨#[]⟩) = V.str sE from rfl]
  by_cases h1 : x.1 = sE
  · have e1 : callM b m_append (.ref h.length) [V.tup [.int x.2, .int i]] (bk h T R) = some (.none, bk h (T ++ [(x.2, i)]) R) := bk_push (x.2, i) hb hT
    have e2 : succ1 t i x = [(x.2, i)] := if_pos h1
    rw [e2]
    unfold backtrack_accepts_b396
    simp only [h1, BEq.rfl, if_true, K'.todo, he, ed1', hi', Option.bind_some, e1, isN, finN]
  · have hf : (x.1 == sE) = false := beq_false_of_ne h1
    simp only [hf, Bool.false_eq_true, if_false]
    unfold backtrack_accepts_b416
    simp only [hi', K'.n, Option.bind_some, ci_lt]
    by_cases h2 : i < t.length
    · have h2' : decide ((i : Int) < (t.length : Int)) = true := decide_eq_true (by lia)
      have hc : t[i]? = some t[i] := List.getElem?_eq_getElem h2
      have hix : idx (.str (S t)) (.int i) (bk h T R) = some (.str ⟨#[t.getD i 0]⟩) := by rw [getD_of hc]; exact idx_str (by lia) (by simpa [S] using hc)
      simp only [h2', if_true, he, ed0', Option.bind_some, cs_eq, K'.text, hix, show (V.str ⟨#[46]⟩) = V.str sDot from rfl]
      by_cases h3 : x.1 = sDot
      · rw [show succ1 t i x = [(x.2, i + 1)] from (if_neg h1).trans (if_pos ⟨h2, .inl h3⟩)]
        simp only [h3, BEq.rfl, if_true]
        exact fin
      · have h3' : (x.1 == sDot) = false := beq_false_of_ne h3
        simp only [h3', Bool.false_eq_true, if_false]
        by_cases h4 : x.1 = ⟨#[t.getD i 0]⟩
        · rw [show succ1 t i x = [(x.2, i + 1)] from (if_neg h1).trans (if_pos ⟨h2, .inr h4⟩)]
          have h4' : (x.1 == ⟨#[t.getD i 0]⟩) = true := beq_iff_eq.mpr h4
          simp only [h4', if_true]
          exact fin
        · rw [show succ1 t i x = [] from (if_neg h1).trans (if_neg (fun q => q.2.elim h3 h4))]
          have h4' : (x.1 == ⟨#[t.getD i 0]⟩) = false := beq_false_of_ne h4
          simp only [h4', Bool.false_eq_true, if_false, finN, List.append_nil]
    · rw [show succ1 t i x = [] from (if_neg h1).trans (if_neg (fun q => h2 q.1))]
      have h2' : decide ((i : Int) < (t.length : Int)) = false := decide_eq_false (by lia)
      simp only [h2', Bool.false_eq_true, if_false, finN, List.append_nil]
/-- all edges of a state -/
theorem bt_row (d : Nat) {i r : Nat} {es : List Edge} (K : BK h e s a t ρ) (hi : ρ n_i = some (.int i)) (hb : b ≤ h.length) (hT : T.length ≤ 50000) (hr : h[r]? = some (rowV es)) (hes : es.length ≤ 2) :
    ∃ ρ', loopS (some r) (rowV es) (backtrack_accepts_l390 d b) (rowV es) ρ (bk h T R) = some (.next, ρ', bk h (T ++ es.flatMap (succ1 t i)) R) ∧ BK h e s a t ρ' := by
  obtain ⟨ρ', h', e1, K', hh, _⟩ := loopS_rule (c := some r) (all := rowV es) (f := backtrack_accepts_l390 d b) (fun j ρ h' => BK h e s a t ρ ∧ h' = bk h (T ++ (es.take j).flatMap (succ1 t i)) R ∧ ρ n_i = some (.int i))
    (fun j x ρ h' hx hI => by
      obtain ⟨K, rfl, hi⟩ := hI
      unfold rowV at hx
      rw [List.getElem?_map] at hx
      obtain ⟨y, hy, rfl⟩ := Option.map_eq_some_iff.mp hx
      have hlen : ((es.take j).flatMap (succ1 t i)).length ≤ 2 := by
        have : ∀ l : List Edge, (l.flatMap (succ1 t i)).length ≤ l.length := fun l => by
          induction l with
          | nil => exact Nat.le_refl _
          | cons z l ih =>
            rw [List.flatMap_cons, List.length_append, List.length_cons]
            have := succ1_len t i z
            lia
        have h1 := this (es.take j)
        have h2 : (es.take j).length ≤ es.length := by rw [List.length_take]; lia
        lia
      refine ⟨chk_some (get_pre _ hr), _, _, .inl (bt_edge d y K hi hb (by rw [List.length_append]; lia)), K.upd (.inr (.inr (.inr (.inr rfl)))) _, ?_, (un (by decide)).trans hi⟩
      rw [List.take_add_one, hy, List.flatMap_append, List.append_assoc]
      simp)
    (fun ρ h' hI => by obtain ⟨_, rfl, _⟩ := hI; exact chk_some (get_pre _ hr)) (ρ := ρ) (h := bk h T R) ⟨K, by simp, hi⟩
  subst hh
  refine ⟨ρ', ?_, K'⟩
  rw [e1, List.take_of_length_le (by simp [rowV])]
end
end Mine
end

section
set_option autoImplicit false
set_option maxRecDepth 100000
namespace Mine
open PySem

/-- a loop that may be left, or may return -/
theorem loopS_any {all : List V} {f : V → Rho → Hp → Option (Fl × Rho × Hp)} (I : Nat → Rho → Hp → Prop) (B : Hp → Prop) (C : V → Hp → Prop)
    (hstep : ∀ i x ρ h, all[i]? = some x → I i ρ h → ∃ fl ρ' h', f x ρ h = some (fl, ρ', h') ∧ (((fl = .next ∨ fl = .cont) ∧ I (i + 1) ρ' h') ∨ (fl = .brk ∧ B h') ∨ ∃ v, fl = .ret v ∧ C v h'))
    (hend : ∀ ρ h, I all.length ρ h → B h) {ρ : Rho} {h : Hp} (h0 : I 0 ρ h) :
    ∃ fl ρ' h', loopS none all f all ρ h = some (fl, ρ', h') ∧ ((fl = .next ∧ B h') ∨ ∃ v, fl = .ret v ∧ C v h') := by
  suffices H : ∀ (rest : List V) (i : Nat) (ρ : Rho) (h : Hp), all.drop i = rest → I i ρ h → i ≤ all.length → ∃ fl ρ' h', loopS none all f rest ρ h = some (fl, ρ', h') ∧ ((fl = .next ∧ B h') ∨ ∃ v, fl = .ret v ∧ C v h') from H all 0 ρ h rfl h0 (Nat.zero_le _)
  intro rest
  induction rest with
  | nil =>
    intro i ρ h hd hi hl
    have : i = all.length := by
      have := congrArg List.length hd
      simp at this
      lia
    subst this
    exact ⟨.next, ρ, h, rfl, .inl ⟨rfl, hend _ _ hi⟩⟩
  | cons x rest ih =>
    intro i ρ h hd hi hl
    have hx : all[i]? = some x := by rw [← List.head?_drop, hd]; rfl
    have hr : all.drop (i + 1) = rest := by rw [← List.tail_drop, hd]; rfl
    have hlt := (List.getElem?_eq_some_iff.mp hx).1
    obtain ⟨fl, ρ', h', e, q⟩ := hstep i x ρ h hx hi
    have e1 : loopS none all f (x :: rest) ρ h = (some (fl, ρ', h')).bind fun q => match q.1 with
      | .next | .cont => loopS none all f rest q.2.1 q.2.2
      | .brk => some (.next, q.2)
      | .ret v => some (.ret v, q.2) := by rw [← e]; rfl
    rw [e1]
    rcases q with ⟨rfl | rfl, q⟩ | ⟨rfl, q⟩ | ⟨v, rfl, q⟩
    · exact ih (i + 1) ρ' h' hr q hlt
    · exact ih (i + 1) ρ' h' hr q hlt
    · exact ⟨_, _, _, rfl, .inl ⟨rfl, q⟩⟩
    · exact ⟨_, _, _, rfl, .inr ⟨v, rfl, q⟩⟩

section
variable {h : Hp} {e s a b : Nat} {t : List Nat} {E : List (List Edge)} {ρ : Rho} {T R : List Pr2}
/-- one turn -/
theorem bt_none (d : Nat) (x : V) (K : BK h e s a t ρ) (hT : T.length = 0) : backtrack_accepts_l385 d b x ρ (bk h T R) = some (.brk, upd ρ n_k x, bk h T R) := by
  have K' := K.upd (y := n_k) (.inl rfl) x
  have hz : ((T.length : Int) == 0) = true := beq_iff_eq.mpr (by rw [hT]; rfl)
  unfold backtrack_accepts_l385 backtrack_accepts_b460
  simp only [K'.todo, Option.bind_some, bk_len, ci_eq, hz, if_true]
  unfold backtrack_accepts_b456
  rfl
theorem bt_423 (d : Nat) (p : Pr2) {es : List Edge} (K : BK h e s a t ρ) (hs : ρ n_s = some (.int p.1)) (hi : ρ n_i = some (.int p.2)) (hE : EdgeAt h e E) (hp : E[p.1]? = some es) (hes : es.length ≤ 2) (hb : b ≤ h.length) (hT : T.length ≤ 10000) :
    ∃ ρ', backtrack_accepts_b423 d b ρ (bk h T R) = some (.next, ρ', bk h (T ++ es.flatMap (succ1 t p.2)) R) ∧ BK h e s a t ρ' := by
  obtain ⟨rs, a1, a2, a3⟩ := hE.rows
  obtain ⟨r, b1, b2⟩ := a3 p.1 _ hp
  have q1 : idx (.ref e) (.int p.1) (bk h T R) = some (.ref r) := idx_ref (get_pre _ a1) (by lia) (by simp [b1])
  have hit : itemsOf (.ref r) (bk h T R) = some (rowV es, some r) := by simp only [itemsOf, bk, get_pre _ b2, Option.map_some]
  obtain ⟨ρ', e1, e2⟩ := bt_row (R := R) d K hi hb (Nat.le_trans hT (by decide)) b2 hes
  refine ⟨ρ', ?_, e2⟩
  unfold backtrack_accepts_b423
  rw [K.edges, Option.bind_some, hs, Option.bind_some, q1, Option.bind_some, hit, Option.bind_some, e1]
  rfl
theorem bt_432 (d : Nat) (p : Pr2) (h' : Hp) (K : BK h e s a t ρ) (hs : ρ n_s = some (.int p.1)) (hi : ρ n_i = some (.int p.2)) :
    (p = (a, t.length) ∧ backtrack_accepts_b432 d b ρ h' = some (.ret (.bool true), ρ, h')) ∨ (p ≠ (a, t.length) ∧ backtrack_accepts_b432 d b ρ h' = backtrack_accepts_b423 d b ρ h') := by
  have hix : idx (V.tup [.int s, .int a, .ref e]) (.int 1) h' = some (.int a) := rfl
  have e0 : backtrack_accepts_b432 d b ρ h' = if ((p.1 : Int) == (a : Int)) = true then (if ((p.2 : Int) == (t.length : Int)) = true then backtrack_accepts_b424 d b ρ h' else backtrack_accepts_b423 d b ρ h') else backtrack_accepts_b423 d b ρ h' := by
    unfold backtrack_accepts_b432
    rw [hs, Option.bind_some, K.nfa, Option.bind_some, hix, Option.bind_some, ci_eq, Option.bind_some, hi, Option.bind_some, K.n, Option.bind_some, ci_eq, Option.bind_some]
  rw [e0]
  by_cases h5 : p.1 = a
  · rw [if_pos (beq_iff_eq.mpr (by rw [h5]))]
    by_cases h6 : p.2 = t.length
    · rw [if_pos (beq_iff_eq.mpr (by rw [h6]))]
      exact .inl ⟨Prod.ext h5 h6, by unfold backtrack_accepts_b424; rfl⟩
    · rw [if_neg (fun q => h6 (by have := beq_iff_eq.mp q; lia))]
      exact .inr ⟨fun q => h6 (congrArg Prod.snd q), rfl⟩
  · rw [if_neg (fun q => h5 (by have := beq_iff_eq.mp q; lia))]
    exact .inr ⟨fun q => h5 (congrArg Prod.fst q), rfl⟩
theorem bt_438 (d : Nat) (p : Pr2) (h' : Hp) (K : BK h e s a t ρ) (hh : ρ n_here = some (prV p)) : ∃ ρ', backtrack_accepts_b438 d b ρ h' = backtrack_accepts_b432 d b ρ' h' ∧ BK h e s a t ρ' ∧ ρ' n_s = some (.int p.1) ∧ ρ' n_i = some (.int p.2) := by
  have K3 := K.upd (y := n_s) (.inr (.inr (.inl rfl))) (.int p.1)
  have h3 : upd ρ n_s (.int p.1) n_here = some (prV p) := (un (by decide)).trans hh
  refine ⟨_, ?_, K3.upd (y := n_i) (.inr (.inr (.inr (.inl rfl)))) (.int p.2), (un (by decide)).trans us, us⟩
  unfold backtrack_accepts_b438
  rw [hh, Option.bind_some, pr_0, Option.bind_some]
  unfold backtrack_accepts_b435
  rw [h3, Option.bind_some, pr_1, Option.bind_some]
theorem bt_447 (d : Nat) (p : Pr2) (K : BK h e s a t ρ) (hh : ρ n_here = some (prV p)) (hb : b ≤ h.length) (hR : R.length ≤ 10000) :
    (p ∈ R ∧ backtrack_accepts_b447 d b ρ (bk h T R) = some (.cont, ρ, bk h T R)) ∨ (p ∉ R ∧ backtrack_accepts_b447 d b ρ (bk h T R) = backtrack_accepts_b438 d b ρ (bk h T (R ++ [p]))) := by
  have e0 : backtrack_accepts_b447 d b ρ (bk h T R) = if decide (p ∈ R) = true then backtrack_accepts_b443 d b ρ (bk h T R) else backtrack_accepts_b442 d b ρ (bk h T R) := by
    unfold backtrack_accepts_b447
    rw [hh, Option.bind_some, K.tried, Option.bind_some, bk_in, Option.bind_some]
  rw [e0]
  by_cases hm : p ∈ R
  · rw [if_pos (decide_eq_true hm)]
    exact .inl ⟨hm, by unfold backtrack_accepts_b443; rfl⟩
  · rw [if_neg (fun q => hm (of_decide_eq_true q))]
    refine .inr ⟨hm, ?_⟩
    unfold backtrack_accepts_b442
    rw [K.tried, Option.bind_some, hh, Option.bind_some, bk_try p hb (Nat.le_trans hR (by decide)), Option.bind_some]
    exact if_pos rfl
theorem bt_460 (d : Nat) (p : Pr2) (K : BK h e s a t ρ) (hb : b ≤ h.length) : ∃ ρ', backtrack_accepts_b460 d b ρ (bk h (T ++ [p]) R) = backtrack_accepts_b447 d b ρ' (bk h T R) ∧ BK h e s a t ρ' ∧ ρ' n_here = some (prV p) := by
  have K2 := K.upd (y := n_here) (.inr (.inl rfl)) (prV p)
  refine ⟨_, ?_, K2, us⟩
  have e0 : backtrack_accepts_b460 d b ρ (bk h (T ++ [p]) R) = if (((T ++ [p]).length : Int) == 0) = true then backtrack_accepts_b456 d b ρ (bk h (T ++ [p]) R) else backtrack_accepts_b455 d b ρ (bk h (T ++ [p]) R) := by
    unfold backtrack_accepts_b460
    rw [K.todo, Option.bind_some, bk_len, Option.bind_some, ci_eq, Option.bind_some]
  rw [e0, if_neg (fun q => by have := beq_iff_eq.mp q; simp at this; lia)]
  unfold backtrack_accepts_b455
  rw [K.todo, Option.bind_some, um1, Option.bind_some, bk_top, Option.bind_some]
  unfold backtrack_accepts_b451
  rw [K2.todo, Option.bind_some, um1, Option.bind_some, bk_del p hb, Option.bind_some]
theorem bt_some (d : Nat) (x : V) (p : Pr2) {es : List Edge} (K : BK h e s a t ρ) (hE : EdgeAt h e E) (hp : E[p.1]? = some es) (hes : es.length ≤ 2) (hb : b ≤ h.length) (hT : T.length ≤ 10000) (hR : R.length ≤ 10000) :
    ∃ fl ρ' T' R', backtrack_accepts_l385 d b x ρ (bk h (T ++ [p]) R) = some (fl, ρ', bk h T' R') ∧ BK h e s a t ρ' ∧
      ((p ∈ R ∧ fl = .cont ∧ T' = T ∧ R' = R) ∨ (p ∉ R ∧ p = (a, t.length) ∧ fl = .ret (.bool true)) ∨ (p ∉ R ∧ p ≠ (a, t.length) ∧ fl = .next ∧ T' = T ++ es.flatMap (succ1 t p.2) ∧ R' = R ++ [p])) := by
  unfold backtrack_accepts_l385
  obtain ⟨ρ2, e2, K2, h2⟩ := bt_460 (b := b) (T := T) (R := R) d p (K.upd (y := n_k) (.inl rfl) x) hb
  rw [e2]
  rcases bt_447 (b := b) (T := T) (R := R) d p K2 h2 hb hR with ⟨hm, e3⟩ | ⟨hm, e3⟩
  · exact ⟨_, _, _, _, e3, K2, .inl ⟨hm, rfl, rfl, rfl⟩⟩
  · rw [e3]
    obtain ⟨ρ4, e4, K4, s4, i4⟩ := bt_438 (b := b) d p (bk h T (R ++ [p])) K2 h2
    rw [e4]
    rcases bt_432 (b := b) d p (bk h T (R ++ [p])) K4 s4 i4 with ⟨hq, e5⟩ | ⟨hq, e5⟩
    · exact ⟨_, _, _, _, e5, K4, .inr (.inl ⟨hm, hq, rfl⟩)⟩
    · rw [e5]
      obtain ⟨ρ6, e6, K6⟩ := bt_423 (T := T) (R := R ++ [p]) d p K4 s4 i4 hE hp hes hb hT
      exact ⟨_, _, _, _, e6, K6, .inr (.inr ⟨hm, hq, rfl, rfl, rfl⟩)⟩
end
end Mine
end

section
set_option autoImplicit false
set_option maxRecDepth 100000
namespace Mine
open PySem

/-- the search after k turns -/
structure Bt (t : List Nat) (E : List (List Edge)) (s a k : Nat) (T R : List Pr2) : Prop where
  inT : ∀ p ∈ T, p.1 < E.length ∧ p.2 ≤ t.length ∧ Pth t E s 0 p.1 p.2
  inR : ∀ p ∈ R, p.1 < E.length ∧ p.2 ≤ t.length
  nodup : R.Nodup
  start : (s, 0) ∈ T ∨ (s, 0) ∈ R
  closed : ∀ p ∈ R, ∀ v j, Est t E p.1 p.2 v j → (v, j) ∈ T ∨ (v, j) ∈ R
  no : (a, t.length) ∉ R
  count : k + T.length ≤ 1 + 2 * R.length
theorem pairs_le {L n : Nat} {R : List Pr2} (h1 : R.Nodup) (h2 : ∀ p ∈ R, p.1 < L ∧ p.2 ≤ n) : R.length ≤ L * (n + 1) := by
  have h3 : (R.map fun p => p.1 * (n + 1) + p.2).Nodup := by
    rw [List.Nodup, List.pairwise_map]
    refine h1.imp_of_mem fun {p q} hp hq hne e => hne ?_
    obtain ⟨a, b⟩ := h2 p hp
    obtain ⟨c, d⟩ := h2 q hq
    have e1 : (p.1 * (n + 1) + p.2) / (n + 1) = (q.1 * (n + 1) + q.2) / (n + 1) := by rw [e]
    rw [Nat.add_comm, Nat.add_mul_div_right _ _ (Nat.succ_pos n), Nat.div_eq_of_lt (Nat.lt_succ_of_le b), Nat.add_comm (q.1 * (n + 1)), Nat.add_mul_div_right _ _ (Nat.succ_pos n), Nat.div_eq_of_lt (Nat.lt_succ_of_le d), Nat.zero_add, Nat.zero_add] at e1
    have e2 : p.2 = q.2 := by rw [e1] at e; exact Nat.add_left_cancel e
    exact Prod.ext e1 e2
  have h4 : ∀ x ∈ (R.map fun p => p.1 * (n + 1) + p.2), x < L * (n + 1) := fun x hx => by
    obtain ⟨p, hp, rfl⟩ := List.mem_map.mp hx
    obtain ⟨a, b⟩ := h2 p hp
    have : (p.1 + 1) * (n + 1) ≤ L * (n + 1) := Nat.mul_le_mul_right _ a
    rw [Nat.add_mul, Nat.one_mul] at this
    lia
  have := h3.length_le_of_subset (l₂ := List.range (L * (n + 1))) fun x hx => List.mem_range.mpr (h4 x hx)
  simpa using this
theorem flat_len (t : List Nat) (i : Nat) (l : List Edge) : (l.flatMap (succ1 t i)).length ≤ l.length := by
  induction l with
  | nil => exact Nat.le_refl _
  | cons z l ih =>
    rw [List.flatMap_cons, List.length_append, List.length_cons]
    have := succ1_len t i z
    lia
theorem Bt.closedP {t : List Nat} {E : List (List Edge)} {s a k : Nat} {R : List Pr2} (x : Bt t E s a k [] R) {u i v j : Nat} (p : Pth t E u i v j) (hu : (u, i) ∈ R) : (v, j) ∈ R := by
  induction p with
  | refl => exact hu
  | step e q ih => exact ih ((x.closed _ hu _ _ e).resolve_left (fun h => nomatch h))
section
variable {h : Hp} {e s a b : Nat} {t : List Nat} {E : List (List Edge)}
theorem Bt.turn {k : Nat} {T R : List Pr2} {p : Pr2} {es : List Edge} (x : Bt t E s a k (T ++ [p]) R) (hes : E[p.1]? = some es) (hl : es.length ≤ 2) (hc : ∀ y ∈ es, y.2 < E.length) (hm : p ∉ R) (hq : p ≠ (a, t.length)) :
    Bt t E s a (k + 1) (T ++ es.flatMap (succ1 t p.2)) (R ++ [p]) := by
  obtain ⟨q1, q2, q3⟩ := x.inT p (List.mem_append_right _ (List.mem_singleton.mpr rfl))
  have hsc : ∀ v j, (v, j) ∈ es.flatMap (succ1 t p.2) ↔ Est t E p.1 p.2 v j := fun v j => by
    rw [est_succ, List.mem_flatMap]
    exact ⟨fun ⟨y, hy, h⟩ => ⟨es, hes, y, hy, h⟩, fun ⟨es', h1, y, hy, h⟩ => by rw [hes] at h1; cases h1; exact ⟨y, hy, h⟩⟩
  have split : ∀ r : Pr2, r ∈ T ++ [p] ∨ r ∈ R → r ∈ T ++ es.flatMap (succ1 t p.2) ∨ r ∈ R ++ [p] := fun r hr => by
    rcases hr with hr | hr
    · rcases List.mem_append.mp hr with q | q
      · exact .inl (List.mem_append_left _ q)
      · exact .inr (List.mem_append_right _ q)
    · exact .inr (List.mem_append_left _ hr)
  refine ⟨fun r hr => ?_, fun r hr => ?_, ?_, split _ x.start, fun r hr v j hv => ?_, fun hr => ?_, ?_⟩
  · rcases List.mem_append.mp hr with q | q
    · exact x.inT r (List.mem_append_left _ q)
    · obtain ⟨v, j⟩ := r
      have he := (hsc v j).mp q
      obtain ⟨es', l, h1, h2, _⟩ := id he
      rw [hes] at h1; cases h1
      exact ⟨hc _ h2, (est_le he).2 q2, q3.trans (.one he)⟩
  · rcases List.mem_append.mp hr with q | q
    · exact x.inR r q
    · cases List.mem_singleton.mp q; exact ⟨q1, q2⟩
  · rw [List.nodup_append]
    exact ⟨x.nodup, List.pairwise_singleton _ _, fun r hr r' hr' => by cases List.mem_singleton.mp hr'; rintro rfl; exact hm hr⟩
  · rcases List.mem_append.mp hr with q | q
    · exact split _ (x.closed r q v j hv)
    · cases List.mem_singleton.mp q
      exact .inl (List.mem_append_right _ ((hsc v j).mpr hv))
  · rcases List.mem_append.mp hr with q | q
    · exact x.no q
    · exact hq (List.mem_singleton.mp q).symm
  · have h1 := x.count
    have h2 := flat_len t p.2 es
    rw [List.length_append] at h1 ⊢
    rw [List.length_append]
    simp only [List.length_cons, List.length_nil] at h1 ⊢
    lia
theorem Bt.skip {k : Nat} {T R : List Pr2} {p : Pr2} (x : Bt t E s a k (T ++ [p]) R) (hm : p ∈ R) : Bt t E s a (k + 1) T R := by
  have split : ∀ r : Pr2, r ∈ T ++ [p] ∨ r ∈ R → r ∈ T ∨ r ∈ R := fun r hr => by
    rcases hr with hr | hr
    · rcases List.mem_append.mp hr with q | q
      · exact .inl q
      · cases List.mem_singleton.mp q; exact .inr hm
    · exact .inr hr
  refine ⟨fun r hr => x.inT r (List.mem_append_left _ hr), x.inR, x.nodup, split _ x.start, fun r hr v j hv => split _ (x.closed r hr v j hv), x.no, ?_⟩
  have h1 := x.count
  rw [List.length_append, List.length_singleton] at h1
  lia

theorem bits_small {n : Nat} (h : n ≤ 1000) : Builtin.Int.intBits (n : Int) ≤ 64 := by
  unfold Builtin.Int.intBits
  by_cases h0 : ((n : Int) == 0) = true
  · rw [if_pos h0]; decide
  · rw [if_neg h0, Int.natAbs_natCast]
    have hn : n ≠ 0 := fun q => h0 (by rw [q]; rfl)
    have := (Nat.log2_lt hn (k := 20)).mpr (by omega)
    omega
theorem backtrack_spec (d : Nat) {f : Bf} (hE : EdgeAt h e E) (F : Frag t E 0 E.length s a f) (hdeg : ∀ es ∈ E, es.length ≤ 2) (hN : E.length ≤ 60) (ht : t.length ≤ 3) :
    ∃ L, (G (d + 2)).fn f_backtrack_accepts [.tup [.int s, .int a, .ref e], .str (S t)] h = some (.bool (f 0 t.length), h ++ L) := by
  have hLn : E.length * (t.length + 1) ≤ 240 := Nat.le_trans (Nat.mul_le_mul hN (Nat.succ_le_succ ht)) (by decide)
  have hok := F.ok 0 t.length (Nat.zero_le _)
  rw [backtrack_accepts_eq]
  unfold backtrack_accepts_s
  have i0 : idx (V.tup [.int s, .int a, .ref e]) (.int 0) h = some (.int s) := rfl
  have i2 : idx (V.tup [.int s, .int a, .ref e]) (.int 2) h = some (.ref e) := rfl
  have e0 : (h ++ [[V.tup [.int s, .int 0]]]) ++ [[]] = bk h [(s, 0)] [] := by rw [List.append_assoc]; rfl
  have el : callB b_len [.ref e] (bk h [(s, 0)] []) = some (.int E.length, bk h [(s, 0)] []) := (hE.app _).len
  have m1 : binop .Mult (.int 2) (.int E.length) (bk h [(s, 0)] []) = some (.int (2 * E.length), bk h [(s, 0)] []) := bi_mul _ _ (by decide)
  have m2 : binop .Mult (.int (2 * (E.length : Int))) (.int ((t.length : Int) + 1)) (bk h [(s, 0)] []) = some (.int (2 * (E.length : Int) * ((t.length : Int) + 1)), bk h [(s, 0)] []) := bi_mul _ _ (by
    have : (2 * (E.length : Int)) = ((2 * E.length : Nat) : Int) := by lia
    rw [this]
    exact bits_small (by lia))
  have eN : (2 * (E.length : Int) * ((t.length : Int) + 1)) + 1 = ((2 * (E.length * (t.length + 1)) + 1 : Nat) : Int) := by
    push_cast
    rw [Int.mul_assoc]
  rw [i2, Option.bind_some, len_str, Option.bind_some, S_len, i0, Option.bind_some, e0, el, Option.bind_some, m1, Option.bind_some, bi_add, Option.bind_some, m2, Option.bind_some, bi_add, Option.bind_some, eN, rA1 (by lia), Option.bind_some]
  obtain ⟨fl, ρ', h', e1, q⟩ := loopS_any (all := rangeV 0 ((2 * (E.length * (t.length + 1)) + 1 : Nat) : Int)) (f := backtrack_accepts_l385 d h.length)
    (fun k ρ h' => BK h e s a t ρ ∧ ∃ T R, h' = bk h T R ∧ Bt t E s a k T R)
    (fun h' => f 0 t.length = false ∧ ∃ L, h' = h ++ L) (fun v h' => v = .bool true ∧ f 0 t.length = true ∧ ∃ L, h' = h ++ L)
    (fun k x ρ h' hx hI => by
      obtain ⟨K, T, R, rfl, B⟩ := hI
      have hR := pairs_le B.nodup B.inR
      rcases List.eq_nil_or_concat T with rfl | ⟨T, p, rfl⟩
      · refine ⟨_, _, _, bt_none d x K rfl, .inr (.inl ⟨rfl, ?_, _, rfl⟩)⟩
        rw [← Bool.not_eq_true]
        exact fun hf => B.no (B.closedP (hok.mpr hf) (B.start.resolve_left (fun h => nomatch h)))
      · rw [List.concat_eq_append] at B ⊢
        have hcnt := B.count
        rw [List.length_append, List.length_singleton] at hcnt
        obtain ⟨q1, q2, q3⟩ := B.inT p (List.mem_append_right _ (List.mem_singleton.mpr rfl))
        have hes : E[p.1]? = some E[p.1] := List.getElem?_eq_getElem q1
        have hl := hdeg _ (List.getElem_mem q1)
        have hR' : R.length ≤ 240 := Nat.le_trans hR hLn
        have hT1 : T.length ≤ 10000 := by omega
        have hR1 : R.length ≤ 10000 := by omega
        obtain ⟨fl, ρ', T', R', f1, K', f2⟩ := bt_some (T := T) (R := R) d x p K hE hes hl (Nat.le_refl _) hT1 hR1
        refine ⟨_, _, _, f1, ?_⟩
        rcases f2 with ⟨hm, rfl, rfl, rfl⟩ | ⟨hm, hq, rfl⟩ | ⟨hm, hq, rfl, rfl, rfl⟩
        · exact .inl ⟨.inr rfl, K', _, _, rfl, B.skip hm⟩
        · refine .inr (.inr ⟨_, rfl, rfl, ?_, _, rfl⟩)
          rw [hq] at q3
          exact hok.mp q3
        · exact .inl ⟨.inl rfl, K', _, _, rfl, B.turn hes hl (fun y hy => (F.cl p.1 _ (Nat.zero_le _) q1 hes y hy).2) hm hq⟩)
    (fun ρ h' hI => by
      obtain ⟨K, T, R, rfl, B⟩ := hI
      have hR := pairs_le B.nodup B.inR
      have hcnt := B.count
      have hrl : (rangeV 0 ((2 * (E.length * (t.length + 1)) + 1 : Nat) : Int)).length = 2 * (E.length * (t.length + 1)) + 1 := by
        have := range_len 0 (2 * (E.length * (t.length + 1)) + 1)
        rw [Int.zero_add] at this
        exact this
      rw [hrl] at hcnt
      have hT : T = [] := List.length_eq_zero_iff.mp (by lia)
      subst hT
      refine ⟨?_, _, rfl⟩
      rw [← Bool.not_eq_true]
      exact fun hf => B.no (B.closedP (hok.mpr hf) (B.start.resolve_left (fun h => nomatch h))))
    (ρ := upd (upd (upd (upd (fun x => List.lookup x (List.zip [n_nfa, n_text] [V.tup [.int s, .int a, .ref e], .str (S t)]).reverse) n_edges (.ref e)) n_n (.int t.length)) n_todo (.ref h.length)) n_tried (.ref (h ++ [[V.tup [.int s, .int 0]]]).length)) (h := bk h [(s, 0)] [])
    ⟨⟨(un (by decide)).trans ((un (by decide)).trans ((un (by decide)).trans us)), (un (by decide)).trans ((un (by decide)).trans ((un (by decide)).trans ((un (by decide)).trans rfl))), (un (by decide)).trans ((un (by decide)).trans ((un (by decide)).trans ((un (by decide)).trans rfl))),
      (un (by decide)).trans ((un (by decide)).trans us), (un (by decide)).trans us, by rw [us, List.length_append, List.length_singleton]⟩, _, _, rfl,
      ⟨fun p hp => by cases List.mem_singleton.mp hp; exact ⟨F.s2, Nat.zero_le _, .refl ..⟩, fun p hp => (nomatch hp), List.nodup_nil, .inl (List.mem_singleton.mpr rfl), fun p hp => (nomatch hp), fun hp => (nomatch hp), Nat.le_refl 1⟩⟩
  rw [e1, Option.bind_some]
  rcases q with ⟨rfl, hf, L, rfl⟩ | ⟨v, rfl, rfl, hf, L, rfl⟩
  · exact ⟨L, by rw [hf]⟩
  · exact ⟨L, by rw [hf]⟩
end
end Mine
end

section
set_option autoImplicit false
set_option maxRecDepth 100000
namespace Mine
open PySem
theorem machine_spec (d : Nat) {h : Hp} {a0 : Nat} {ks : List K8} {t : List Nat} {f : Bf} (ha : h[a0]? = some (ks.map K8.tup)) (hok : ∀ k ∈ ks, k.ok) (hs : sms t ks [] = some [f]) (hn : ks.length ≤ 12) (ht : t.length ≤ 3) :
    ∃ L, (G (d + 6)).fn f_law_the_backtracker_means_it [.ref a0, .str (S t)] h = some (.bool true, h ++ L) := by
  rw [show d + 6 = (d + 4) + 2 from rfl, law_the_backtracker_means_it_eq]
  unfold law_the_backtracker_means_it_s
  obtain ⟨E, s, a, e1, F, hl, hdg⟩ := thompson_spec (d + 3) ha hok hs (by lia)
  obtain ⟨L1, e2⟩ := backtrack_spec (d + 3) (h := th h E [(s, a)]) th_edges F hdg (by lia) ht
  have ha2 : (th h E [(s, a)] ++ L1)[a0]? = some (ks.map K8.tup) := get_pre _ (th_pre ha)
  obtain ⟨L2, e3⟩ := means_spec d ha2 hs (by lia) (by lia)
  rw [show d + 4 + 1 = d + 3 + 2 from rfl, e1, Option.bind_some, e2, Option.bind_some, show d + 3 + 2 = d + 5 from rfl, e3, Option.bind_some, cb_eq, Option.bind_some]
  exact ⟨(eV h.length E.length :: stV [(s, a)] :: E.map rowV) ++ L1 ++ L2, by rw [beq_self_eq_true]; simp [th]⟩
end Mine
end

section
set_option autoImplicit false
set_option maxRecDepth 100000
namespace Mine
open PySem

/-! lists of words -/
noncomputable def wV (ws : List (List Nat)) : List V := ws.map fun w => V.str (S w)
noncomputable def Wok (w : List Nat) : Prop := ∀ c ∈ w, c < 0x110000
noncomputable def AllW (ws : List (List Nat)) : Prop := ∀ w ∈ ws, Wok w
theorem Wok.all {w : List Nat} (h : Wok w) : (S w).cps.all (· < 0x110000) = true := by
  simp only [S, List.all_toArray, List.all_eq_true, decide_eq_true_eq]
  exact h
theorem rd_w {w : List Nat} (h : Wok w) (n : Nat) (hp : Hp) : rd n hp (.str (S w)) = some (.str (S w)) := by
  cases n <;> exact if_pos h.all
theorem rd_wV {n : Nat} {h : Hp} : ∀ {ws : List (List Nat)}, AllW ws → rdAll (rd n h) (wV ws) = some (ws.map fun w => PyData.str (S w))
  | [], _ => rfl
  | w :: ws, ha => by
    show ((rd n h (.str (S w))).bind fun d => (rdAll (rd n h) (wV ws)).map (d :: ·)) = _
    rw [rd_w (ha w (List.mem_cons_self ..)), rd_wV fun x hx => ha x (List.mem_cons_of_mem _ hx)]
    rfl
theorem S_inj {a b : List Nat} (h : S a = S b) : a = b := congrArg (fun s : Str => s.cps.toList) h
theorem in_wV {h : Hp} {a : Nat} {ws : List (List Nat)} {w : List Nat} (e : h[a]? = some (wV ws)) (ha : AllW ws) (hw : Wok w) : cmpop .In (.str (S w)) (.ref a) h = some (decide (w ∈ ws)) := by
  show ((h[a]?).bind fun vs => (rd 8 h (.str (S w))).bind fun d => (rdAll (rd 8 h) vs).map fun ds => ds.any fun y => PyData.eqv y d) = _
  rw [e]
  simp only [Option.bind_some, rd_wV ha, Option.map_some, rd_w hw]
  congr 1
  rw [Bool.eq_iff_iff]
  simp only [List.any_map, List.any_eq_true, Function.comp_def, decide_eq_true_eq]
  constructor
  · rintro ⟨y, hy, e⟩
    have : (S y == S w) = true := e
    rw [← S_inj (beq_iff_eq.mp this)]; exact hy
  · intro hx
    exact ⟨w, hx, by show (S w == S w) = true; simp⟩
theorem loopL_inv {c : Option Nat} {all : List V} {f : V → Hp → Option Hp} (I : Nat → Hp → Prop)
    (hstep : ∀ i x h, all[i]? = some x → I i h → chk c all h = true ∧ ∃ h', f x h = some h' ∧ I (i + 1) h')
    (hend : ∀ h, I all.length h → chk c all h = true) {h : Hp} (h0 : I 0 h) : ∃ h', loopL c all f all h = some h' ∧ I all.length h' := by
  suffices H : ∀ (rest : List V) (i : Nat) (h : Hp), all.drop i = rest → I i h → i ≤ all.length → ∃ h', loopL c all f rest h = some h' ∧ I all.length h' from H all 0 h rfl h0 (Nat.zero_le _)
  intro rest
  induction rest with
  | nil =>
    intro i h hd hi hl
    have : i = all.length := by
      have := congrArg List.length hd
      simp at this
      lia
    subst this
    exact ⟨h, by simp [loopL, hend _ hi], hi⟩
  | cons x rest ih =>
    intro i h hd hi hl
    have hx : all[i]? = some x := by rw [← List.head?_drop, hd]; rfl
    have hr : all.drop (i + 1) = rest := by rw [← List.tail_drop, hd]; rfl
    have hlt := (List.getElem?_eq_some_iff.mp hx).1
    obtain ⟨hc, h', e, hi'⟩ := hstep i x h hx hi
    obtain ⟨h2, e2, i2⟩ := ih (i + 1) h' hr hi' (by lia)
    exact ⟨h2, by unfold loopL; rw [if_pos hc, e]; exact e2, i2⟩

/-- the cut of a word that both lists hold -/
noncomputable def cutB (A B : List (List Nat)) (w : List Nat) : Bool := (List.range (w.length + 1)).any fun k => decide (w.take k ∈ A) && decide (w.drop k ∈ B)
/-- the piece of the text from i up to j -/
noncomputable def sb (t : List Nat) (i j : Nat) : List Nat := (t.take j).drop i
theorem sb_len {t : List Nat} {i j : Nat} (hj : j ≤ t.length) : (sb t i j).length = j - i := by
  unfold sb; rw [List.length_drop, List.length_take]; lia
theorem sb_take {t : List Nat} {i j k : Nat} (hk : i + k ≤ j) : (sb t i j).take k = sb t i (i + k) := by
  unfold sb; rw [List.take_drop, List.take_take]; congr 2; lia
theorem sb_drop {t : List Nat} {i j k : Nat} : (sb t i j).drop k = sb t (i + k) j := by
  unfold sb; rw [List.drop_drop]
theorem sb_one {t : List Nat} {i : Nat} (h : i < t.length) : sb t i (i + 1) = [t[i]] := by
  unfold sb
  rw [List.drop_take, List.drop_eq_getElem_cons h, show i + 1 - i = 1 by lia]
  rfl
structure Lg (t : List Nat) (ws : List (List Nat)) (f : Bf) : Prop where
  mem : ∀ i j, i ≤ j → j ≤ t.length → (sb t i j ∈ ws ↔ f i j = true)
  ok : AllW ws
/-- the pieces -/
structure Pcs (t : List Nat) (ps : List (List Nat)) : Prop where
  all : ∀ i j, i ≤ j → j ≤ t.length → sb t i j ∈ ps
  ok : AllW ps
  len : ps.length ≤ 10
  wlen : ∀ w ∈ ps, w.length ≤ 100
  tlen : t.length ≤ 100
  tok : Wok t
section
variable {t : List Nat} {ps A B : List (List Nat)} {f g : Bf}
theorem Lg.congr {ws : List (List Nat)} (x : Lg t ws f) (h : ∀ i j, i ≤ j → j ≤ t.length → (f i j = true ↔ g i j = true)) : Lg t ws g := ⟨fun i j h1 h2 => (x.mem i j h1 h2).trans (h i j h1 h2), x.ok⟩
theorem Lg.join (P : Pcs t ps) (hA : Lg t A f) (hB : Lg t B g) (rf : Rd (t.length + 1) f) (rg : Rd (t.length + 1) g) : Lg t (ps.filter (cutB A B)) (mcat (t.length + 1) f g) := by
  refine ⟨fun i j h1 h2 => ?_, fun w hw => P.ok w (List.mem_filter.mp hw).1⟩
  rw [List.mem_filter, ← mcat_ex rf]
  unfold cutB
  simp only [List.any_eq_true, List.mem_range, Bool.and_eq_true, decide_eq_true_eq, sb_len h2, sb_drop]
  constructor
  · rintro ⟨_, k, hk, m1, m2⟩
    rw [sb_take (by lia)] at m1
    exact ⟨i + k, (hA.mem _ _ (by lia) (by lia)).mp m1, (hB.mem _ _ (by lia) h2).mp m2⟩
  · rintro ⟨m, m1, m2⟩
    have := rf _ _ m1; have := rg _ _ m2
    refine ⟨P.all i j h1 h2, m - i, by lia, ?_, ?_⟩
    · rw [sb_take (by lia), show i + (m - i) = m by lia]
      exact (hA.mem _ _ (by lia) (by lia)).mpr m1
    · rw [show i + (m - i) = m by lia]
      exact (hB.mem _ _ (by lia) h2).mpr m2
theorem Lg.eps : Lg t [[]] (meps (t.length + 1)) := by
  refine ⟨fun i j h1 h2 => ?_, fun w hw => by simp at hw; subst hw; intro c hc; cases hc⟩
  rw [meps_iff, List.mem_singleton, ← List.length_eq_zero_iff, sb_len h2]
  lia
theorem Lg.alt (hA : Lg t A f) (hB : Lg t B g) : Lg t (A ++ B) (malt f g) := by
  refine ⟨fun i j h1 h2 => ?_, fun w hw => (List.mem_append.mp hw).elim (hA.ok w) (hB.ok w)⟩
  rw [List.mem_append, malt_iff, hA.mem i j h1 h2, hB.mem i j h1 h2]
theorem Lg.chr {c : Nat} (hc : c < 0x110000) : Lg t [[c]] (mchr t ⟨#[c]⟩) := by
  refine ⟨fun i j h1 h2 => ?_, fun w hw => by simp at hw; subst hw; intro x hx; simp at hx; subst hx; exact hc⟩
  rw [mchr_iff, List.mem_singleton]
  constructor
  · intro h
    have hl := congrArg List.length h
    rw [sb_len h2] at hl
    simp at hl
    have hj : j = i + 1 := by lia
    subst hj
    rw [sb_one (by lia)] at h
    injection h with h _
    exact ⟨rfl, c, by rw [List.getElem?_eq_getElem (by lia), h], rfl⟩
  · rintro ⟨rfl, c', h3, h4⟩
    obtain ⟨q1, q2⟩ := List.getElem?_eq_some_iff.mp h3
    have : c = c' := by
      have := congrArg (fun s : Str => s.cps.toList) h4
      simpa using this
    subst this
    rw [sb_one q1, q2]
theorem Lg.dot (P : Pcs t ps) : Lg t (ps.filter fun w => decide (w.length = 1)) (mdot t) := by
  refine ⟨fun i j h1 h2 => ?_, fun w hw => P.ok w (List.mem_filter.mp hw).1⟩
  rw [mdot_iff, List.mem_filter, decide_eq_true_eq, sb_len h2]
  constructor
  · rintro ⟨_, h⟩
    have hj : j = i + 1 := by lia
    exact ⟨hj, t[i], List.getElem?_eq_getElem (by lia)⟩
  · rintro ⟨rfl, _⟩
    exact ⟨P.all _ _ h1 h2, by lia⟩
theorem mit_step {m i j : Nat} (h2 : j ≤ t.length) : mcat (t.length + 1) (mit (t.length + 1) f m) (malt f (meps (t.length + 1))) i j = true ↔ mit (t.length + 1) f (m + 1) i j = true := by
  show _ ↔ malt _ _ i j = true
  rw [mcat_iff, malt_iff, mcat_iff]
  constructor
  · rintro ⟨k, h3, h4, h5⟩
    rcases malt_iff.mp h5 with h5 | h5
    · exact .inr ⟨k, h3, h4, h5⟩
    · obtain ⟨rfl, _⟩ := meps_iff.mp h5
      exact .inl h4
  · rintro (h | ⟨k, h3, h4, h5⟩)
    · exact ⟨j, by lia, h, malt_iff.mpr (.inr (meps_iff.mpr ⟨rfl, by lia⟩))⟩
    · exact ⟨k, h3, h4, malt_iff.mpr (.inl h5)⟩
end

/-- a list of words at r that reads f -/
structure LgAt (h : Hp) (t : List Nat) (lo r n : Nat) (f : Bf) : Prop where
  lg : ∃ ws, h[r]? = some (wV ws) ∧ Lg t ws f ∧ ws.length ≤ n
  ge : lo ≤ r
theorem LgAt.app {h : Hp} {t : List Nat} {lo r n : Nat} {f : Bf} (x : LgAt h t lo r n f) (L : Hp) : LgAt (h ++ L) t lo r n f :=
  ⟨let ⟨ws, a, b⟩ := x.lg; ⟨ws, get_pre L a, b⟩, x.ge⟩
theorem LgAt.set {h : Hp} {t : List Nat} {lo r n a : Nat} {f : Bf} (x : LgAt h t lo r n f) (ha : a < lo) (ys : List V) : LgAt (h.set a ys) t lo r n f :=
  ⟨let ⟨ws, q, b⟩ := x.lg; ⟨ws, by have := x.ge; rw [List.getElem?_set_ne (by lia)]; exact q, b⟩, x.ge⟩
theorem LgAt.weak {h : Hp} {t : List Nat} {lo lo' r n n' : Nat} {f : Bf} (x : LgAt h t lo r n f) (h1 : lo' ≤ lo) (h2 : n ≤ n') : LgAt h t lo' r n' f :=
  ⟨let ⟨ws, q, b, c⟩ := x.lg; ⟨ws, q, b, Nat.le_trans c h2⟩, Nat.le_trans h1 x.ge⟩

/-- a comprehension that keeps some of the words -/
theorem words_filter {h : Hp} {pp : Nat} {ps : List (List Nat)} {f : V → Hp → Option Hp} (p : List Nat → Bool) (hp : h[pp]? = some (wV ps)) (hl : ps.length ≤ 1000)
    (hf : ∀ w ∈ ps, ∀ xs : List V, xs.length ≤ 1000 → f (.str (S w)) (h ++ [xs]) = if p w = true then appendTo h.length (.str (S w)) (h ++ [xs]) else some (h ++ [xs])) :
    loopL (some pp) (wV ps) f (wV ps) (h ++ [[]]) = some (h ++ [wV (ps.filter p)]) := by
  obtain ⟨h', e1, rfl⟩ := loopL_inv (c := some pp) (all := wV ps) (f := f) (fun i h' => h' = h ++ [wV ((ps.take i).filter p)])
    (fun i x h' hx hI => by
      subst hI
      unfold wV at hx
      rw [List.getElem?_map] at hx
      obtain ⟨w, hw1, rfl⟩ := Option.map_eq_some_iff.mp hx
      refine ⟨chk_some (get_pre _ hp), ?_⟩
      have hfl : (wV ((ps.take i).filter p)).length ≤ 1000 := by
        have h1 : ((ps.take i).filter p).length ≤ (ps.take i).length := List.length_filter_le ..
        have h2 : (ps.take i).length ≤ ps.length := by rw [List.length_take]; lia
        simp only [wV, List.length_map]
        lia
      rw [hf w (List.mem_of_getElem? hw1) _ hfl]
      have htk : (ps.take (i + 1)).filter p = (ps.take i).filter p ++ if p w = true then [w] else [] := by
        rw [List.take_add_one, hw1, List.filter_append]
        congr 1
        cases hcb : p w <;> simp [hcb]
      by_cases q : p w = true
      · rw [if_pos q, appendTo_last _ (by lia)]
        refine ⟨_, rfl, ?_⟩
        rw [htk, if_pos q]
        simp [wV]
      · rw [if_neg q]
        refine ⟨_, rfl, ?_⟩
        rw [htk, if_neg q, List.append_nil])
    (fun h' hI => by subst hI; exact chk_some (get_pre _ hp)) (h := h ++ [[]]) (by simp [wV])
  rw [e1, List.take_of_length_le (by simp [wV])]
theorem anyG_all {f : V → Option Bool} (g : V → Bool) : ∀ {l : List V}, (∀ x ∈ l, f x = some (g x)) → anyG f l = some (l.any g)
  | [], _ => rfl
  | x :: l, hf => by
    show (f x).bind (fun t => (anyG f l).map (t || ·)) = _
    rw [hf x List.mem_cons_self, anyG_all g fun y hy => hf y (List.mem_cons_of_mem _ hy)]
    rfl
theorem keepH_same (h : Hp) (b : Bool) : keepH h h (.bool b) = some b := by
  unfold keepH
  rw [if_pos rfl]; rfl
theorem s_to {w : List Nat} {k : Nat} (hk : k ≤ w.length) (h : Hp) : slice (.str (S w)) V.none (.int k) V.none h = some (.str (S (w.take k)), h) := by
  have hkl : (w.take k).length = k := by rw [List.length_take]; lia
  have := S_slice_to (h := h) (u := w.take k) (v := w.drop k)
  rw [List.take_append_drop, hkl] at this
  exact this
theorem s_from {w : List Nat} {k : Nat} (hk : k ≤ w.length) (h : Hp) : slice (.str (S w)) (.int k) V.none V.none h = some (.str (S (w.drop k)), h) := by
  have hkl : (w.take k).length = k := by rw [List.length_take]; lia
  have := S_slice_from (h := h) (u := w.take k) (v := w.drop k) (i := k) (by rw [hkl])
  rw [List.take_append_drop] at this
  exact this
theorem cat_spec41 (d : Nat) {h : Hp} {pp aa ab : Nat} {ps A B : List (List Nat)} (hp : h[pp]? = some (wV ps)) (hA : h[aa]? = some (wV A)) (hB : h[ab]? = some (wV B)) (wp : AllW ps) (wA : AllW A) (wB : AllW B) (hl : ps.length ≤ 1000) (hw : ∀ w ∈ ps, w.length ≤ 100) :
    (G (d + 2)).fn f_law_cat [.ref pp, .ref aa, .ref ab] h = some (.ref h.length, h ++ [wV (ps.filter (cutB A B))]) := by
  rw [law_cat_eq]
  unfold law_cat_s
  have hi : itemsOf (.ref pp) h = some (wV ps, some pp) := by simp only [itemsOf, hp, Option.map_some]
  rw [hi, Option.bind_some, words_filter (cutB A B) hp hl ?_, Option.bind_some]
  intro w hwm xs hxs
  have wok := wp w hwm
  have wl := hw w hwm
  have hAH : ∀ {v : List Nat}, Wok v → _ := fun {v} => in_wV (w := v) (get_pre [xs] hA) wA
  have hBH : ∀ {v : List Nat}, Wok v → _ := fun {v} => in_wV (w := v) (get_pre [xs] hB) wB
  have hany : anyG (fun x477 =>
      (slice (.str (S w)) V.none x477 V.none (h ++ [xs])).bind fun p479 =>
      (cmpop .In p479.1 (.ref aa) p479.2).bind fun t480 =>
      (truthV (V.bool t480)).bind fun t481 =>
      if t481 then
      (slice (.str (S w)) x477 V.none V.none p479.2).bind fun p482 =>
      (cmpop .In p482.1 (.ref ab) p482.2).bind fun t483 =>
      keepH (h ++ [xs]) p482.2 (V.bool t483)
      else
      keepH (h ++ [xs]) p479.2 (V.bool t480)) (rangeV 0 ((w.length + 1 : Nat) : Int)) = some (cutB A B w) := by
    rw [anyG_all (fun z => decide (w.take (vN z) ∈ A) && decide (w.drop (vN z) ∈ B)) fun z hz => ?_]
    · congr 1
      unfold cutB rangeV
      rw [List.any_map, show (((w.length + 1 : Nat) : Int) - 0).toNat = w.length + 1 by lia]
      have : ∀ j : Nat, vN (.int (0 + (j : Int))) = j := fun j => by simp [vN]
      simp only [Function.comp_def, this]
    · obtain ⟨k, hk, rfl⟩ := rangeV_mem hz
      have hvk : vN (V.int (k : Int)) = k := by simp [vN]
      have o1 : Wok (w.take k) := fun c hc => wok c (List.mem_of_mem_take hc)
      have o2 : Wok (w.drop k) := fun c hc => wok c (List.mem_of_mem_drop hc)
      have hkl : k ≤ w.length := by lia
      simp only [hvk, s_to hkl, Option.bind_some, hAH o1, truth_bool, s_from hkl, hBH o2, keepH_same]
      by_cases q : w.take k ∈ A
      · have q' : decide (w.take k ∈ A) = true := decide_eq_true q
        simp only [q', if_true, Bool.true_and]
      · have q' : decide (w.take k ∈ A) = false := decide_eq_false q
        simp only [q', Bool.false_eq_true, if_false, Bool.false_and]
  simp only [len_str, S_len, Option.bind_some, bi_add, cast1]
  rw [rA1 (by lia), Option.bind_some, hany, Option.bind_some]
  cases cutB A B w <;> rfl
end Mine
end

section
set_option autoImplicit false
set_option maxRecDepth 100000
namespace Mine
open PySem

noncomputable def gen (N : Nat) (f g0 : Bf) : Nat → Bf
  | 0 => g0
  | m + 1 => malt (gen N f g0 m) (mcat N (gen N f g0 m) f)
theorem Rd.gen {N : Nat} {f g0 : Bf} (hf : Rd N f) (hg : Rd N g0) : ∀ m, Rd N (gen N f g0 m)
  | 0 => hg
  | m + 1 => (Rd.gen hf hg m).alt ((Rd.gen hf hg m).cat hf)
theorem gen_star {N : Nat} {f : Bf} : ∀ m, gen N f (meps N) m = mit N f m
  | 0 => rfl
  | m + 1 => by show malt _ (mcat N _ f) = malt _ (mcat N _ f); rw [gen_star m]
theorem gen_plus {N : Nat} {f : Bf} (hf : Rd N f) : ∀ (m : Nat) {i j : Nat}, gen N f f m i j = true ↔ mcat N f (mit N f m) i j = true
  | 0, i, j => by
    show f i j = true ↔ mcat N f (meps N) i j = true
    rw [← mcat_ex hf]
    constructor
    · intro h; exact ⟨j, h, meps_iff.mpr ⟨rfl, (hf i j h).2⟩⟩
    · rintro ⟨k, h1, h2⟩; obtain ⟨rfl, _⟩ := meps_iff.mp h2; exact h1
  | m + 1, i, j => by
    show malt _ (mcat N _ f) i j = true ↔ mcat N f (malt _ (mcat N _ f)) i j = true
    rw [malt_iff, gen_plus hf m, ← mcat_ex (Rd.gen hf hf m), ← mcat_ex hf, ← mcat_ex hf]
    constructor
    · rintro (⟨k, h1, h2⟩ | ⟨k, h1, h2⟩)
      · exact ⟨k, h1, malt_iff.mpr (.inl h2)⟩
      · obtain ⟨l, h3, h4⟩ := (mcat_ex hf).mpr ((gen_plus hf m).mp h1)
        exact ⟨l, h3, malt_iff.mpr (.inr ((mcat_ex (Rd.it hf m)).mp ⟨k, h4, h2⟩))⟩
    · rintro ⟨k, h1, h2⟩
      rcases malt_iff.mp h2 with h2 | h2
      · exact .inl ⟨k, h1, h2⟩
      · obtain ⟨l, h3, h4⟩ := (mcat_ex (Rd.it hf m)).mpr h2
        exact .inr ⟨l, (gen_plus hf m).mpr ((mcat_ex hf).mp ⟨k, h1, h3⟩), h4⟩

section
variable {t : List Nat} {ps : List (List Nat)} {f g : Bf} {h : Hp} {pp : Nat}
theorem cat_lg (d : Nat) (P : Pcs t ps) (hp : h[pp]? = some (wV ps)) {aa ab la lb na nb : Nat} (A : LgAt h t la aa na f) (B : LgAt h t lb ab nb g) (rf : Rd (t.length + 1) f) (rg : Rd (t.length + 1) g) :
    ∃ W, (G (d + 2)).fn f_law_cat [.ref pp, .ref aa, .ref ab] h = some (.ref h.length, h ++ [wV W]) ∧ Lg t W (mcat (t.length + 1) f g) ∧ W.length ≤ 10 := by
  obtain ⟨A', a1, a2, _⟩ := A.lg
  obtain ⟨B', b1, b2, _⟩ := B.lg
  exact ⟨_, cat_spec41 d hp a1 b1 P.ok a2.ok b2.ok (by have := P.len; lia) P.wlen, a2.join P b2 rf rg, Nat.le_trans (List.length_filter_le ..) P.len⟩
theorem Lg.or (P : Pcs t ps) {A B : List (List Nat)} (hA : Lg t A f) (hB : Lg t B g) : Lg t (ps.filter fun w => decide (w ∈ A) || decide (w ∈ B)) (malt f g) := by
  refine ⟨fun i j h1 h2 => ?_, fun w hw => P.ok w (List.mem_filter.mp hw).1⟩
  rw [List.mem_filter, malt_iff, Bool.or_eq_true, decide_eq_true_eq, decide_eq_true_eq, hA.mem i j h1 h2, hB.mem i j h1 h2]
  exact ⟨fun q => q.2, fun q => ⟨P.all i j h1 h2, q⟩⟩
structure MK (pp aa : Nat) (ρ : Rho) : Prop where
  words : ρ n_words = some (.ref pp)
  a : ρ n_a = some (.ref aa)
/-- one turn of many -/
theorem many_turn (d b : Nat) (x : V) {ρ : Rho} (P : Pcs t ps) (hp : h[pp]? = some (wV ps)) {aa gg la lg na ng : Nat} (A : LgAt h t la aa na f) (Gt : LgAt h t lg gg ng g) (rf : Rd (t.length + 1) f) (rg : Rd (t.length + 1) g) (K : MK pp aa ρ) (hg : ρ n_got = some (.ref gg)) :
    ∃ ρ' L, law_many_l485 (d + 1) b x ρ h = some (.next, ρ', h ++ L) ∧ MK pp aa ρ' ∧ ∃ r, ρ' n_got = some (.ref r) ∧ LgAt (h ++ L) t h.length r 10 (malt g (mcat (t.length + 1) g f)) := by
  obtain ⟨W, e1, w1, w2⟩ := cat_lg d P hp Gt A rg rf
  obtain ⟨Gl, g1, g2, _⟩ := Gt.lg
  have hp' := get_pre [wV W] hp
  have hi : itemsOf (.ref pp) (h ++ [wV W]) = some (wV ps, some pp) := by simp only [itemsOf, hp', Option.map_some]
  have hl : ps.length ≤ 1000 := Nat.le_trans P.len (by decide)
  unfold law_many_l485
  rw [K.words, Option.bind_some, hg, Option.bind_some, K.a, Option.bind_some, show d + 1 + 1 = d + 2 from rfl, e1, Option.bind_some, Option.bind_some, hi, Option.bind_some]
  rw [words_filter (h := h ++ [wV W]) (fun w => decide (w ∈ Gl) || decide (w ∈ W)) hp' hl ?_, Option.bind_some]
  · refine ⟨_, [wV W] ++ [wV (ps.filter fun w => decide (w ∈ Gl) || decide (w ∈ W))], by rw [← List.append_assoc], ⟨?_, ?_⟩, (h ++ [wV W]).length, us, ⟨⟨_, ?_, Lg.or P g2 w1, Nat.le_trans (List.length_filter_le ..) P.len⟩, by simp⟩⟩
    · exact (un (by decide)).trans ((un (by decide)).trans ((un (by decide)).trans K.words))
    · exact (un (by decide)).trans ((un (by decide)).trans ((un (by decide)).trans K.a))
    · rw [← List.append_assoc]; exact get_last _ _
  · intro w hwm xs hxs
    have i1 := in_wV (w := w) (get_pre [xs] (get_pre [wV W] g1)) g2.ok (P.ok w hwm)
    have i2 := in_wV (w := w) (get_pre [xs] (get_last h (wV W))) w1.ok (P.ok w hwm)
    rw [Option.bind_some, i1, Option.bind_some]
    by_cases q1 : w ∈ Gl
    · have hr : (decide (w ∈ Gl) || decide (w ∈ W)) = true := by rw [decide_eq_true q1]; rfl
      rw [if_pos (decide_eq_true q1), if_pos hr]
      rfl
    · rw [if_neg (fun q => q1 (of_decide_eq_true q)), i2, Option.bind_some]
      by_cases q2 : w ∈ W
      · have hr : (decide (w ∈ Gl) || decide (w ∈ W)) = true := by rw [decide_eq_true q2, Bool.or_true]
        rw [if_pos (decide_eq_true q2), if_pos hr]
        rfl
      · have hr : ¬ (decide (w ∈ Gl) || decide (w ∈ W)) = true := by rw [decide_eq_false q1, decide_eq_false q2]; exact Bool.false_ne_true
        rw [if_neg (fun q => q2 (of_decide_eq_true q)), if_neg hr]
        rfl
theorem many_spec (d : Nat) (P : Pcs t ps) (hp : h[pp]? = some (wV ps)) {aa gg la lg na ng : Nat} (A : LgAt h t la aa na f) (Gt : LgAt h t lg gg ng g) (rf : Rd (t.length + 1) f) (rg : Rd (t.length + 1) g) :
    ∃ r L, (G (d + 3)).fn f_law_many [.ref pp, .ref gg, .ref aa] h = some (.ref r, h ++ L) ∧ LgAt (h ++ L) t h.length r 10 (gen (t.length + 1) f g 3) := by
  rw [show d + 3 = (d + 1) + 2 from rfl, law_many_eq]
  unfold law_many_s
  rw [rA1 (n := 3) (by decide), Option.bind_some]
  obtain ⟨ρ1, h1, q1, K, r, L, rfl, i1, hX⟩ := loop_range (n := 3) (f := law_many_l485 (d + 1) h.length) (fun m ρ' h' => MK pp aa ρ' ∧ ∃ r L, h' = h ++ L ∧ ρ' n_got = some (.ref r) ∧ ∃ lo n', LgAt h' t lo r n' (gen (t.length + 1) f g m) ∧ (0 < m → h.length ≤ lo ∧ n' ≤ 10)) (fun m hm ρ' h' I => by
      obtain ⟨K, r, L, rfl, i1, lo, n', X, _⟩ := I
      obtain ⟨ρ2, L2, e1, K2, r2, i2, Y⟩ := many_turn d h.length (.int m) P (get_pre L hp) (A.app L) X rf (Rd.gen rf rg m) K i1
      exact ⟨ρ2, _, e1, K2, r2, L ++ L2, by rw [List.append_assoc], i2, _, _, Y, fun _ => ⟨by simp, Nat.le_refl _⟩⟩)
    (ρ := upd (fun x => List.lookup x (List.zip [n_words, n_first, n_a] [V.ref pp, V.ref gg, V.ref aa]).reverse) n_got (V.ref gg)) (h := h)
    ⟨⟨(un (by decide)).trans rfl, (un (by decide)).trans rfl⟩, gg, [], (List.append_nil h).symm, us, lg, ng, Gt, fun q => absurd q (Nat.lt_irrefl 0)⟩
  obtain ⟨lo, n', X, hb⟩ := hX
  obtain ⟨b1, b2⟩ := hb (by decide)
  have q1' : loopS none (rangeV 0 3) (law_many_l485 (d + 1) h.length) (rangeV 0 3) (upd (fun x => List.lookup x (List.zip [n_words, n_first, n_a] [V.ref pp, V.ref gg, V.ref aa]).reverse) n_got (V.ref gg)) h = some (.next, ρ1, h ++ L) := q1
  rw [q1', Option.bind_some]
  refine ⟨r, L, ?_, X.weak b1 b2⟩
  show (ρ1 n_got).bind _ = _
  rw [i1, Option.bind_some]
end

theorem ke (k : K8) (s : Str) (b : Bool) (h : Hp) (hb : (k.kind == s) = b) : cmpop .Eq (.str k.kind) (.str s) h = some b := by rw [cs_eq, hb]
inductive WStk (h : Hp) (t : List Nat) (lo n : Nat) : List Nat → List Bf → Prop
  | nil : WStk h t lo n [] []
  | cons {r rs f fs} : LgAt h t lo r n f → WStk h t lo n rs fs → WStk h t lo n (r :: rs) (f :: fs)
theorem WStk.app {h : Hp} {t : List Nat} {lo n : Nat} {rs : List Nat} {fs : List Bf} (x : WStk h t lo n rs fs) (L : Hp) : WStk (h ++ L) t lo n rs fs := by
  induction x with
  | nil => exact .nil
  | cons t _ ih => exact .cons (t.app L) ih
theorem WStk.set {h : Hp} {t : List Nat} {lo n a : Nat} {rs : List Nat} {fs : List Bf} (x : WStk h t lo n rs fs) (ha : a < lo) (ys : List V) : WStk (h.set a ys) t lo n rs fs := by
  induction x with
  | nil => exact .nil
  | cons t _ ih => exact .cons (t.set ha ys) ih
theorem WStk.weak {h : Hp} {t : List Nat} {lo n n' : Nat} {rs : List Nat} {fs : List Bf} (x : WStk h t lo n rs fs) (hn : n ≤ n') : WStk h t lo n' rs fs := by
  induction x with
  | nil => exact .nil
  | cons t _ ih => exact .cons (t.weak (Nat.le_refl _) hn) ih
theorem WStk.len {h : Hp} {t : List Nat} {lo n : Nat} {rs : List Nat} {fs : List Bf} (x : WStk h t lo n rs fs) : rs.length = fs.length := by
  induction x with
  | nil => rfl
  | cons _ _ ih => exact congrArg (· + 1) ih
theorem WStk.inv {h : Hp} {t : List Nat} {lo n : Nat} {rs : List Nat} {f : Bf} {fs : List Bf} (x : WStk h t lo n rs (f :: fs)) : ∃ r rs', rs = r :: rs' ∧ LgAt h t lo r n f ∧ WStk h t lo n rs' fs := by
  cases x with | cons a b => exact ⟨_, _, rfl, a, b⟩
theorem WStk.nil_inv {h : Hp} {t : List Nat} {lo n : Nat} {rs : List Nat} (x : WStk h t lo n rs []) : rs = [] := by cases x; rfl
noncomputable def K8.fine (k : K8) : Prop := k.ok ∧ ∀ c ∈ k.sign.cps.toList, c < 0x110000
end Mine
end

section
set_option autoImplicit false
set_option maxRecDepth 100000
namespace Mine
open PySem

section
variable {t : List Nat} {ps : List (List Nat)} {f g : Bf} {h : Hp} {pp : Nat}
theorem len_one_w (w : List Nat) (h : Hp) : callB b_len [.str (S w)] h = some (.int w.length, h) := by rw [len_str, S_len]
theorem v_chr (d : Nat) (P : Pcs t ps) (hp : h[pp]? = some (wV ps)) {c : Nat} (hc : c < 0x110000) (a : V) : ∃ W, law_value_s d (.str K8.any.kind) (.str ⟨#[]⟩) a (.ref pp) h = some (.ref h.length, h ++ [wV W]) ∧ Lg t W (mdot t) ∧ W.length ≤ 10 := by
  have hi : itemsOf (.ref pp) h = some (wV ps, some pp) := by simp only [itemsOf, hp, Option.map_some]
  refine ⟨_, ?_, Lg.dot P, Nat.le_trans (List.length_filter_le ..) P.len⟩
  unfold law_value_s
  rw [ke .any _ false _ (by decide), Option.bind_some, if_neg Bool.false_ne_true, ke .any _ true _ (by decide), Option.bind_some, if_pos rfl, hi, Option.bind_some, words_filter (fun w => decide (w.length = 1)) hp (Nat.le_trans P.len (by decide)) ?_, Option.bind_some]
  intro w hwm xs hxs
  rw [len_one_w, Option.bind_some, ci_eq, Option.bind_some]
  by_cases q : w.length = 1
  · rw [if_pos (decide_eq_true q), if_pos (beq_iff_eq.mpr (by rw [q]; rfl))]
  · rw [if_neg (fun z => q (of_decide_eq_true z)), if_neg (fun z => q (by have := beq_iff_eq.mp z; lia))]
    rfl
theorem v_sign (d : Nat) (P : Pcs t ps) (hp : h[pp]? = some (wV ps)) {c : Nat} (hc : c < 0x110000) (a : V) : ∃ W, law_value_s d (.str (K8.chr ⟨#[c]⟩).kind) (.str ⟨#[c]⟩) a (.ref pp) h = some (.ref h.length, h ++ [wV W]) ∧ Lg t W (mchr t ⟨#[c]⟩) ∧ W.length ≤ 10 := by
  have hi : itemsOf (.ref pp) h = some (wV ps, some pp) := by simp only [itemsOf, hp, Option.map_some]
  have hL : Lg t (ps.filter fun w => decide (w = [c])) (mchr t ⟨#[c]⟩) := by
    refine ⟨fun i j h1 h2 => ?_, fun w hw => P.ok w (List.mem_filter.mp hw).1⟩
    rw [← (Lg.chr (t := t) hc).mem i j h1 h2, List.mem_filter, List.mem_singleton, decide_eq_true_eq]
    exact ⟨fun q => q.2, fun q => ⟨P.all i j h1 h2, q⟩⟩
  refine ⟨_, ?_, hL, Nat.le_trans (List.length_filter_le ..) P.len⟩
  unfold law_value_s
  rw [ke (.chr ⟨#[c]⟩) _ true _ rfl, Option.bind_some, if_pos rfl, hi, Option.bind_some, words_filter (fun w => decide (w = [c])) hp (Nat.le_trans P.len (by decide)) ?_, Option.bind_some]
  intro w hwm xs hxs
  have e1 : cmpop .Eq (.str (S w)) (.str ⟨#[c]⟩) (h ++ [xs]) = some (S w == S [c]) := rfl
  rw [e1, Option.bind_some]
  by_cases q : w = [c]
  · rw [if_pos (decide_eq_true q), if_pos (beq_iff_eq.mpr (by rw [q]))]
  · rw [if_neg (fun z => q (of_decide_eq_true z)), if_neg (fun z => q (S_inj (beq_iff_eq.mp z)))]
    rfl
theorem v_eps (d : Nat) (a w c : V) : law_value_s d (.str K8.eps.kind) c a w h = some (.ref h.length, h ++ [wV [[]]]) := by
  unfold law_value_s
  rw [ke .eps _ false _ (by decide), Option.bind_some, if_neg Bool.false_ne_true, ke .eps _ false _ (by decide), Option.bind_some, if_neg Bool.false_ne_true, ke .eps _ true _ (by decide), Option.bind_some, if_pos rfl]
  rfl
theorem eps_at (h : Hp) (t : List Nat) : LgAt (h ++ [wV [[]]]) t h.length h.length 10 (meps (t.length + 1)) := ⟨⟨[[]], get_last h _, Lg.eps, by decide⟩, Nat.le_refl _⟩
theorem v_star (d : Nat) (P : Pcs t ps) (hp : h[pp]? = some (wV ps)) (ht : t.length ≤ 3) {q r lo n : Nat} (c : V) (hq : h[q]? = some [V.ref r]) (X : LgAt h t lo r n f) (rf : Rd (t.length + 1) f) :
    ∃ r' L, law_value_s (d + 2) (.str K8.star.kind) c (.ref q) (.ref pp) h = some (.ref r', h ++ L) ∧ LgAt (h ++ L) t h.length r' 10 (mstar (t.length + 1) f) := by
  have e0 : (h ++ [[V.str ⟨#[]⟩]]) = h ++ [wV [[]]] := rfl
  obtain ⟨r', L, e1, Y⟩ := many_spec d P (get_pre [wV [[]]] hp) (X.app [wV [[]]]) (eps_at h t) rf (Rd.eps _)
  refine ⟨r', [wV [[]]] ++ L, ?_, ?_⟩
  · unfold law_value_s
    rw [ke .star _ false _ (by decide), Option.bind_some, if_neg Bool.false_ne_true, ke .star _ false _ (by decide), Option.bind_some, if_neg Bool.false_ne_true, ke .star _ false _ (by decide), Option.bind_some, if_neg Bool.false_ne_true, ke .star _ true _ (by decide), Option.bind_some, if_pos rfl]
    rw [e0, idx_ref (get_pre [wV [[]]] hq) (by decide) (v := V.ref r) rfl, Option.bind_some, show d + 2 + 1 = d + 3 from rfl, e1, Option.bind_some, List.append_assoc]
  · rw [← List.append_assoc]
    obtain ⟨W, w1, w2, w3⟩ := Y.lg
    refine ⟨⟨W, w1, w2.congr fun i j h1 h2 => ?_, w3⟩, Nat.le_trans (by simp) Y.ge⟩
    rw [gen_star, star_iff rf (by lia), it_star rf (by lia) (by lia)]
theorem v_plus (d : Nat) (P : Pcs t ps) (hp : h[pp]? = some (wV ps)) (ht : t.length ≤ 3) {q r lo n : Nat} (c : V) (hq : h[q]? = some [V.ref r]) (X : LgAt h t lo r n f) (rf : Rd (t.length + 1) f) :
    ∃ r' L, law_value_s (d + 2) (.str K8.plus.kind) c (.ref q) (.ref pp) h = some (.ref r', h ++ L) ∧ LgAt (h ++ L) t h.length r' 10 (mcat (t.length + 1) f (mstar (t.length + 1) f)) := by
  obtain ⟨r', L, e1, Y⟩ := many_spec d P hp X X rf rf
  refine ⟨r', L, ?_, ?_⟩
  · unfold law_value_s
    rw [ke .plus _ false _ (by decide), Option.bind_some, if_neg Bool.false_ne_true, ke .plus _ false _ (by decide), Option.bind_some, if_neg Bool.false_ne_true, ke .plus _ false _ (by decide), Option.bind_some, if_neg Bool.false_ne_true, ke .plus _ false _ (by decide), Option.bind_some, if_neg Bool.false_ne_true, ke .plus _ true _ (by decide), Option.bind_some, if_pos rfl]
    rw [idx_ref hq (by decide) (v := V.ref r) rfl, Option.bind_some, Option.bind_some, show d + 2 + 1 = d + 3 from rfl, e1, Option.bind_some]
  · obtain ⟨W, w1, w2, w3⟩ := Y.lg
    refine ⟨⟨W, w1, w2.congr fun i j h1 h2 => ?_, w3⟩, Y.ge⟩
    rw [gen_plus rf, ← mcat_ex rf, ← mcat_ex rf]
    constructor
    · rintro ⟨m, a, b⟩
      have := rf _ _ a
      exact ⟨m, a, (star_iff rf this.2).mpr ((it_star rf (by lia) this.2).mp b)⟩
    · rintro ⟨m, a, b⟩
      have := rf _ _ a
      exact ⟨m, a, (it_star rf (by lia) this.2).mpr ((star_iff rf this.2).mp b)⟩
theorem v_opt (d : Nat) {q r lo n : Nat} (c w : V) (hq : h[q]? = some [V.ref r]) (X : LgAt h t lo r n f) (hn : n ≤ 100000) :
    ∃ r' L, law_value_s d (.str K8.opt.kind) c (.ref q) w h = some (.ref r', h ++ L) ∧ LgAt (h ++ L) t h.length r' (n + 1) (malt f (meps (t.length + 1))) := by
  have e0 : (h ++ [[V.str ⟨#[]⟩]]) = h ++ [wV [[]]] := rfl
  obtain ⟨W, w1, w2, w3⟩ := X.lg
  have e1 := bl_add (h ++ [wV [[]]]) (get_last h (wV [[]])) (get_pre [wV [[]]] w1) (by rw [sizeLine_val]; simp [wV]; lia)
  refine ⟨(h ++ [wV [[]]]).length, [wV [[]]] ++ [wV [[]] ++ wV W], ?_, ?_⟩
  · unfold law_value_s
    rw [ke .opt _ false _ (by decide), Option.bind_some, if_neg Bool.false_ne_true, ke .opt _ false _ (by decide), Option.bind_some, if_neg Bool.false_ne_true, ke .opt _ false _ (by decide), Option.bind_some, if_neg Bool.false_ne_true, ke .opt _ false _ (by decide), Option.bind_some, if_neg Bool.false_ne_true, ke .opt _ false _ (by decide), Option.bind_some, if_neg Bool.false_ne_true, ke .opt _ true _ (by decide), Option.bind_some, if_pos rfl]
    rw [e0, idx_ref (get_pre [wV [[]]] hq) (by decide) (v := V.ref r) rfl, Option.bind_some, e1, Option.bind_some, List.append_assoc]
  · rw [← List.append_assoc]
    refine ⟨⟨[[]] ++ W, by rw [get_last]; simp [wV], (Lg.eps.alt w2).congr fun i j _ _ => ?_, by simp; lia⟩, by simp⟩
    rw [malt_iff, malt_iff, or_comm]
theorem v_cat (d : Nat) (P : Pcs t ps) (hp : h[pp]? = some (wV ps)) {q r1 r2 lo n : Nat} (c : V) (hq : h[q]? = some [V.ref r1, V.ref r2]) (X : LgAt h t lo r1 n f) (Y : LgAt h t lo r2 n g) (rf : Rd (t.length + 1) f) (rg : Rd (t.length + 1) g) :
    ∃ W, law_value_s (d + 1) (.str K8.cat.kind) c (.ref q) (.ref pp) h = some (.ref h.length, h ++ [wV W]) ∧ Lg t W (mcat (t.length + 1) f g) ∧ W.length ≤ 10 := by
  obtain ⟨W, e1, w1, w2⟩ := cat_lg d P hp X Y rf rg
  refine ⟨W, ?_, w1, w2⟩
  unfold law_value_s
  rw [ke .cat _ false _ (by decide), Option.bind_some, if_neg Bool.false_ne_true, ke .cat _ false _ (by decide), Option.bind_some, if_neg Bool.false_ne_true, ke .cat _ false _ (by decide), Option.bind_some, if_neg Bool.false_ne_true, ke .cat _ false _ (by decide), Option.bind_some, if_neg Bool.false_ne_true, ke .cat _ false _ (by decide), Option.bind_some, if_neg Bool.false_ne_true, ke .cat _ false _ (by decide), Option.bind_some, if_neg Bool.false_ne_true, ke .cat _ true _ (by decide), Option.bind_some, if_pos rfl]
  rw [idx_ref hq (i := 0) (by decide) (v := V.ref r1) rfl, Option.bind_some, idx_ref hq (i := 1) (by decide) (v := V.ref r2) rfl, Option.bind_some, show d + 1 + 1 = d + 2 from rfl, e1, Option.bind_some]
theorem v_alt (d : Nat) {q r1 r2 lo n : Nat} (c w : V) (hq : h[q]? = some [V.ref r1, V.ref r2]) (X : LgAt h t lo r1 n f) (Y : LgAt h t lo r2 n g) (hn : n ≤ 100000) :
    ∃ r' L, law_value_s d (.str K8.alt.kind) c (.ref q) w h = some (.ref r', h ++ L) ∧ LgAt (h ++ L) t h.length r' (2 * n) (malt f g) := by
  obtain ⟨W, w1, w2, w3⟩ := X.lg
  obtain ⟨U, u1, u2, u3⟩ := Y.lg
  have e1 := bl_add h w1 u1 (by rw [sizeLine_val]; simp [wV]; lia)
  refine ⟨h.length, [wV W ++ wV U], ?_, ⟨⟨W ++ U, by rw [get_last]; simp [wV], w2.alt u2, by simp; lia⟩, Nat.le_refl _⟩⟩
  unfold law_value_s
  rw [ke .alt _ false _ (by decide), Option.bind_some, if_neg Bool.false_ne_true, ke .alt _ false _ (by decide), Option.bind_some, if_neg Bool.false_ne_true, ke .alt _ false _ (by decide), Option.bind_some, if_neg Bool.false_ne_true, ke .alt _ false _ (by decide), Option.bind_some, if_neg Bool.false_ne_true, ke .alt _ false _ (by decide), Option.bind_some, if_neg Bool.false_ne_true, ke .alt _ false _ (by decide), Option.bind_some, if_neg Bool.false_ne_true, ke .alt _ false _ (by decide), Option.bind_some, if_neg Bool.false_ne_true]
  rw [idx_ref hq (i := 0) (by decide) (v := V.ref r1) rfl, Option.bind_some, idx_ref hq (i := 1) (by decide) (v := V.ref r2) rfl, Option.bind_some, e1, Option.bind_some]
end
end Mine
end

section
set_option autoImplicit false
set_option maxRecDepth 100000
namespace Mine
open PySem

noncomputable def needs : List (Str × V) := [(⟨#[99, 104, 114]⟩, (V.int (0))), (⟨#[97, 110, 121]⟩, (V.int (0))), (⟨#[101, 112, 115]⟩, (V.int (0))), (⟨#[115, 116, 97, 114]⟩, (V.int (1))), (⟨#[112, 108, 117, 115]⟩, (V.int (1))), (⟨#[111, 112, 116]⟩, (V.int (1))), (⟨#[99, 97, 116]⟩, (V.int (2))), (⟨#[97, 108, 116]⟩, (V.int (2)))]
noncomputable def K8.need : K8 → Nat | .chr _ => 0 | .any => 0 | .eps => 0 | .star => 1 | .plus => 1 | .opt => 1 | .cat => 2 | .alt => 2
theorem need_eq (k : K8) : dctLk needs (.str k.kind) = some (.int k.need) := by cases k <;> kernel_rfl
theorem clip_nat {n k : Nat} (h : k ≤ n) : clipAt n (k : Int) = k := by unfold clipAt; rw [if_neg (by lia)]; lia
theorem cut_to {α : Type} (xs ys : List α) : cutL (xs ++ ys) none (some (xs.length : Int)) = xs := by
  unfold cutL
  simp only [Option.elim, List.drop_zero, Nat.sub_zero]
  rw [clip_nat (by rw [List.length_append]; lia), List.take_left]
theorem cut_from {α : Type} (xs ys : List α) : cutL (xs ++ ys) (some (xs.length : Int)) none = ys := by
  unfold cutL
  simp only [Option.elim]
  rw [clip_nat (by rw [List.length_append]; lia), List.drop_left, List.length_append, Nat.add_sub_cancel_left, List.take_length]
theorem sl_to {h : Hp} {r : Nat} {xs ys : List V} (e : h[r]? = some (xs ++ ys)) : slice (.ref r) V.none (.int xs.length) V.none h = some (.ref h.length, h ++ [xs]) := by
  show (h[r]?).bind (fun zs => some (V.ref h.length, h ++ [cutL zs none (some (xs.length : Int))])) = _
  rw [e, Option.bind_some, cut_to]
theorem sl_from {h : Hp} {r : Nat} {xs ys : List V} (e : h[r]? = some (xs ++ ys)) : slice (.ref r) (.int xs.length) V.none V.none h = some (.ref h.length, h ++ [ys]) := by
  show (h[r]?).bind (fun zs => some (V.ref h.length, h ++ [cutL zs (some (xs.length : Int)) none])) = _
  rw [e, Option.bind_some, cut_from]
theorem put_core (d : Nat) {h L : Hp} {r pp x : Nat} {kd sg : Str} {xs ys : List V} (hr : h[r]? = some (xs ++ ys)) (hk : dctLk needs (.str kd) = some (.int ys.length)) (hl : xs.length ≤ 1000)
    (hv : (G (d + 1)).fn f_law_value [.str kd, .str sg, .ref (h ++ [xs]).length, .ref pp] (h ++ [xs] ++ [ys]) = some (.ref x, h ++ [xs] ++ [ys] ++ L)) :
    (G (d + 2)).fn f_law_put [.ref r, .str kd, .str sg, .ref pp] h = some (.ref (h ++ [xs] ++ [ys] ++ L ++ [[V.ref x]]).length, h ++ [xs] ++ [ys] ++ L ++ [[V.ref x]] ++ [xs ++ [V.ref x]]) := by
  rw [law_put_eq]
  unfold law_put_s
  have e1 : (V.int (((xs ++ ys).length : Nat) : Int)) = .int ((xs.length : Int) + ys.length) := by rw [List.length_append]; rfl
  have e2 : ((xs.length : Int) + ys.length) - ys.length = xs.length := by lia
  have hk' : dctLk [(⟨#[99, 104, 114]⟩, (V.int (0))), (⟨#[97, 110, 121]⟩, (V.int (0))), (⟨#[101, 112, 115]⟩, (V.int (0))), (⟨#[115, 116, 97, 114]⟩, (V.int (1))), (⟨#[112, 108, 117, 115]⟩, (V.int (1))), (⟨#[111, 112, 116]⟩, (V.int (1))), (⟨#[99, 97, 116]⟩, (V.int (2))), (⟨#[97, 108, 116]⟩, (V.int (2)))] (.str kd) = some (.int ys.length) := hk
  have hg : (h ++ [xs] ++ [ys] ++ L ++ [[V.ref x]])[h.length]? = some xs := get_pre _ (get_pre _ (get_pre _ (get_last h xs)))
  have hb := bl_add _ hg (get_last (h ++ [xs] ++ [ys] ++ L) [V.ref x]) (by rw [sizeLine_val]; simp; lia)
  rw [len_ref h hr, Option.bind_some, e1, hk', Option.bind_some, bi_sub, Option.bind_some, e2, sl_to hr, Option.bind_some, sl_from (get_pre [xs] hr), Option.bind_some, hv, Option.bind_some, hb, Option.bind_some]

section
variable {t : List Nat} {ps : List (List Nat)} {h : Hp} {pp : Nat}
theorem at_one {h2 : Hp} {lo n m : Nat} {W : List (List Nat)} {f : Bf} (w1 : Lg t W f) (w2 : W.length ≤ n) (hl : lo ≤ h2.length) (hm : n ≤ m) : LgAt (h2 ++ [wV W]) t lo h2.length m f := ⟨⟨W, get_last _ _, w1, Nat.le_trans w2 hm⟩, hl⟩
theorem value_spec (d : Nat) (P : Pcs t ps) (hp : h[pp]? = some (wV ps)) (ht : t.length ≤ 3) {k : K8} (hk : k.fine) {lo n : Nat} {rs : List Nat} {fs fs' : List Bf} (hs : smStep t k fs = some fs') (X : WStk h t lo n rs fs) (rd : AllRd (t.length + 1) fs) (hn : n ≤ 50000) (hn1 : 10 ≤ n) (hlo : lo ≤ h.length) :
    ∃ as rest f' fs0, rs = as ++ rest ∧ fs' = f' :: fs0 ∧ WStk h t lo n rest fs0 ∧ as.length = k.need ∧ ∀ (M : Hp) (q : Nat), (h ++ M)[q]? = some (rfs as) → ∃ x L, law_value_s (d + 2) (.str k.kind) (.str k.sign) (.ref q) (.ref pp) (h ++ M) = some (.ref x, h ++ M ++ L) ∧ LgAt (h ++ M ++ L) t lo x (2 * n) f' := by
  have hM : ∀ M : Hp, lo ≤ (h ++ M).length := fun M => by rw [List.length_append]; lia
  have hd : ∀ {f : Bf} {gs : List Bf}, AllRd (t.length + 1) (f :: gs) → Rd (t.length + 1) f ∧ AllRd (t.length + 1) gs := fun h => ⟨h _ List.mem_cons_self, fun g hg => h g (List.mem_cons_of_mem _ hg)⟩
  cases k with
  | chr s =>
    obtain ⟨⟨c, rfl, hc1⟩, hc2⟩ := hk
    cases hs
    refine ⟨[], rs, _, fs, rfl, rfl, X, rfl, fun M q hq => ?_⟩
    obtain ⟨W, e, w1, w2⟩ := v_sign (d + 2) P (get_pre M hp) (hc2 c (by simp [K8.sign])) (.ref q)
    exact ⟨_, _, e, at_one w1 w2 (hM M) (by lia)⟩
  | any =>
    cases hs
    refine ⟨[], rs, _, fs, rfl, rfl, X, rfl, fun M q hq => ?_⟩
    obtain ⟨W, e, w1, w2⟩ := v_chr (d + 2) P (get_pre M hp) (c := 97) (by decide) (.ref q)
    exact ⟨_, _, e, at_one w1 w2 (hM M) (by lia)⟩
  | eps =>
    cases hs
    refine ⟨[], rs, _, fs, rfl, rfl, X, rfl, fun M q hq => ?_⟩
    exact ⟨_, _, v_eps (d + 2) (.ref q) (.ref pp) _, (eps_at (h ++ M) t).weak (hM M) (by lia)⟩
  | star =>
    cases fs with
    | nil => cases hs
    | cons f fs =>
      cases hs
      obtain ⟨r, rs', rfl, Y, Z⟩ := X.inv
      refine ⟨[r], rs', _, fs, rfl, rfl, Z, rfl, fun M q hq => ?_⟩
      obtain ⟨x, L, e, w⟩ := v_star d P (get_pre M hp) ht (.str ⟨#[]⟩) hq (Y.app M) (hd rd).1
      exact ⟨x, L, e, w.weak (hM M) (by lia)⟩
  | plus =>
    cases fs with
    | nil => cases hs
    | cons f fs =>
      cases hs
      obtain ⟨r, rs', rfl, Y, Z⟩ := X.inv
      refine ⟨[r], rs', _, fs, rfl, rfl, Z, rfl, fun M q hq => ?_⟩
      obtain ⟨x, L, e, w⟩ := v_plus d P (get_pre M hp) ht (.str ⟨#[]⟩) hq (Y.app M) (hd rd).1
      exact ⟨x, L, e, w.weak (hM M) (by lia)⟩
  | opt =>
    cases fs with
    | nil => cases hs
    | cons f fs =>
      cases hs
      obtain ⟨r, rs', rfl, Y, Z⟩ := X.inv
      refine ⟨[r], rs', _, fs, rfl, rfl, Z, rfl, fun M q hq => ?_⟩
      obtain ⟨x, L, e, w⟩ := v_opt (d + 2) (.str ⟨#[]⟩) (.ref pp) hq (Y.app M) (by lia)
      exact ⟨x, L, e, w.weak (hM M) (by lia)⟩
  | cat =>
    cases fs with
    | nil => cases hs
    | cons g fs => cases fs with
      | nil => cases hs
      | cons f fs =>
        cases hs
        obtain ⟨r, rs', rfl, Y, Z⟩ := X.inv
        obtain ⟨l, rs', rfl, Y', Z⟩ := Z.inv
        refine ⟨[r, l], rs', _, fs, rfl, rfl, Z, rfl, fun M q hq => ?_⟩
        obtain ⟨W, e, w1, w2⟩ := v_cat (d + 1) P (get_pre M hp) (.str ⟨#[]⟩) hq (Y'.app M) (Y.app M) (hd (hd rd).2).1 (hd rd).1
        exact ⟨_, _, e, at_one w1 w2 (hM M) (by lia)⟩
  | alt =>
    cases fs with
    | nil => cases hs
    | cons g fs => cases fs with
      | nil => cases hs
      | cons f fs =>
        cases hs
        obtain ⟨r, rs', rfl, Y, Z⟩ := X.inv
        obtain ⟨l, rs', rfl, Y', Z⟩ := Z.inv
        refine ⟨[r, l], rs', _, fs, rfl, rfl, Z, rfl, fun M q hq => ?_⟩
        obtain ⟨x, L, e, w⟩ := v_alt (d + 2) (.str ⟨#[]⟩) (.ref pp) hq (Y'.app M) (Y.app M) (by lia)
        exact ⟨x, L, e, w.weak (hM M) (by lia)⟩
theorem rfs_app (a b : List Nat) : rfs (a ++ b) = rfs b ++ rfs a := by simp [rfs]
theorem put_spec (d : Nat) (P : Pcs t ps) (hp : h[pp]? = some (wV ps)) (ht : t.length ≤ 3) {k : K8} (hk : k.fine) {lo n r : Nat} {rs : List Nat} {fs fs' : List Bf} (hs : smStep t k fs = some fs') (hr : h[r]? = some (rfs rs)) (X : WStk h t lo n rs fs) (rd : AllRd (t.length + 1) fs) (hl : rs.length ≤ 1000) (hn : n ≤ 50000) (hn1 : 10 ≤ n) (hlo : lo ≤ h.length) :
    ∃ r' L rs', (G (d + 5)).fn f_law_put [.ref r, .str k.kind, .str k.sign, .ref pp] h = some (.ref r', h ++ L) ∧ (h ++ L)[r']? = some (rfs rs') ∧ WStk (h ++ L) t lo (2 * n) rs' fs' ∧ rs'.length ≤ rs.length + 1 ∧ h.length ≤ r' := by
  obtain ⟨as, rest, f', fs0, rfl, rfl, Z, hn2, hv⟩ := value_spec d P hp ht hk hs X rd hn hn1 hlo
  rw [rfs_app] at hr
  have hq : (h ++ ([rfs rest] ++ [rfs as]))[(h ++ [rfs rest]).length]? = some (rfs as) := by rw [← List.append_assoc]; exact get_last _ _
  obtain ⟨x, L, e, w⟩ := hv ([rfs rest] ++ [rfs as]) _ hq
  rw [← List.append_assoc] at e w
  have hk2 : dctLk needs (.str k.kind) = some (.int (rfs as).length) := by rw [need_eq, ← hn2]; simp [rfs]
  have e' := put_core (d + 3) hr hk2 (by simp [rfs] at hl ⊢; lia) ((law_value_eq (d + 2) ..).trans e)
  refine ⟨(h ++ [rfs rest] ++ [rfs as] ++ L ++ [[V.ref x]]).length, [rfs rest] ++ [rfs as] ++ L ++ [[V.ref x]] ++ [rfs rest ++ [V.ref x]], x :: rest, e'.trans ?_, ?_, ?_, ?_, ?_⟩
  · simp
  · have : h ++ ([rfs rest] ++ [rfs as] ++ L ++ [[V.ref x]] ++ [rfs rest ++ [V.ref x]]) = (h ++ [rfs rest] ++ [rfs as] ++ L ++ [[V.ref x]]) ++ [rfs rest ++ [V.ref x]] := by simp
    rw [this, get_last, rfs_cons]
  · have : h ++ ([rfs rest] ++ [rfs as] ++ L ++ [[V.ref x]] ++ [rfs rest ++ [V.ref x]]) = (h ++ [rfs rest] ++ [rfs as] ++ L) ++ ([[V.ref x]] ++ [rfs rest ++ [V.ref x]]) := by simp
    rw [this]
    refine .cons (w.app _) ?_
    have h2 := (Z.app ([rfs rest] ++ [rfs as] ++ L ++ [[V.ref x]] ++ [rfs rest ++ [V.ref x]])).weak (show n ≤ 2 * n by lia)
    rw [this] at h2
    exact h2
  · simp
  · simp
end
end Mine
end

section
set_option autoImplicit false
set_option maxRecDepth 100000
namespace Mine
open PySem

theorem cell_spec (d : Nat) (ns : List Int) (k : Nat) (h : Hp) (h0 : h[0]? = some (ns.map V.int)) : (G (d + 2)).fn f_law_cell [.ref 0, .int k] h = some (.int (cell ns k), h) := by
  rw [law_cell_eq]
  unfold law_cell_s
  simp only [len_ref h h0, Option.bind_some, cmpop, int2, List.length_map]
  by_cases hk : k < ns.length
  · have : (k : Int) < ns.length := by lia
    have e : idx (V.ref 0) (V.int k) h = some (.int (cell ns k)) := idx_ref h0 (by lia) (by simp [cell, hk])
    simp [this, e]
  · have : ¬ (k : Int) < ns.length := by lia
    simp [this, hk, cell]
theorem cell_at (d : Nat) (ns : List Int) (h : Hp) (h0 : h[0]? = some (ns.map V.int)) {z : Int} (k : Nat) (hz : z = k) : (G (d + 2)).fn f_law_cell [.ref 0, .int z] h = some (.int (cell ns k), h) := by
  subst hz; exact cell_spec d ns k h h0
theorem sms_app {t : List Nat} : ∀ {ks : List K8} {st : List Bf} {k : K8}, sms t (ks ++ [k]) st = (sms t ks st).bind (smStep t k)
  | [], st, k => by
    show (smStep t k st).bind (sms t []) = smStep t k st
    cases smStep t k st <;> rfl
  | x :: ks, st, k => by
    show (smStep t x st).bind (sms t (ks ++ [k])) = ((smStep t x st).bind (sms t ks)).bind (smStep t k)
    cases smStep t x st with
    | none => rfl
    | some st' => exact sms_app
theorem sm_ex (t : List Nat) {k : K8} {fs : List Bf} (h : k.need ≤ fs.length) : ∃ fs', smStep t k fs = some fs' ∧ fs'.length + k.need = fs.length + 1 := by
  cases k with
  | chr s => exact ⟨_, rfl, rfl⟩
  | any => exact ⟨_, rfl, rfl⟩
  | eps => exact ⟨_, rfl, rfl⟩
  | star => cases fs with
    | nil => cases h
    | cons f fs => exact ⟨_, rfl, rfl⟩
  | plus => cases fs with
    | nil => cases h
    | cons f fs => exact ⟨_, rfl, rfl⟩
  | opt => cases fs with
    | nil => cases h
    | cons f fs => exact ⟨_, rfl, rfl⟩
  | cat => cases fs with
    | nil => cases h
    | cons f fs => cases fs with
      | nil => exact absurd (show 2 ≤ 1 from h) (by decide)
      | cons g fs => exact ⟨_, rfl, rfl⟩
  | alt => cases fs with
    | nil => cases h
    | cons f fs => cases fs with
      | nil => exact absurd (show 2 ≤ 1 from h) (by decide)
      | cons g fs => exact ⟨_, rfl, rfl⟩
theorem fine0 {k : K8} (h : k.isChr = false) : k.fine := by
  cases k with
  | chr s => cases h
  | _ => exact ⟨trivial, fun c hc => by cases hc⟩
theorem fineC {c : Nat} (h1 : c ≠ 46) (h2 : c < 0x110000) : (K8.chr ⟨#[c]⟩).fine := ⟨⟨c, rfl, h1⟩, fun x hx => by
  have : x = c := by simpa [K8.sign] using hx
  subst this; exact h2⟩
noncomputable def kindsV : V := (V.tup [(V.str ⟨#[99, 104, 114]⟩), (V.str ⟨#[97, 110, 121]⟩), (V.str ⟨#[101, 112, 115]⟩), (V.str ⟨#[115, 116, 97, 114]⟩), (V.str ⟨#[112, 108, 117, 115]⟩), (V.str ⟨#[111, 112, 116]⟩), (V.str ⟨#[99, 97, 116]⟩), (V.str ⟨#[97, 108, 116]⟩)])
theorem lt8 : ∀ {n : Nat}, n < 8 → n = 0 ∨ n = 1 ∨ n = 2 ∨ n = 3 ∨ n = 4 ∨ n = 5 ∨ n = 6 ∨ n = 7 := fun {n} h => (show ∀ n : Fin 8, n.1 = 0 ∨ n.1 = 1 ∨ n.1 = 2 ∨ n.1 = 3 ∨ n.1 = 4 ∨ n.1 = 5 ∨ n.1 = 6 ∨ n.1 = 7 by decide) ⟨n, h⟩
theorem lt5 : ∀ {n : Nat}, n < 5 → n = 0 ∨ n = 1 ∨ n = 2 ∨ n = 3 ∨ n = 4 := fun {n} h => (show ∀ n : Fin 5, n.1 = 0 ∨ n.1 = 1 ∨ n.1 = 2 ∨ n.1 = 3 ∨ n.1 = 4 by decide) ⟨n, h⟩
theorem kinds_idx (x : Int) : ∃ k : K8, k.sign = ⟨#[]⟩ ∧ ∀ h : Hp, idx kindsV (.int (x.fmod 8)) h = some (.str k.kind) := by
  have g0 := fmod_lo x (b := 8) (by decide)
  have g1 := fmod_hi x (b := 8) (by decide)
  obtain ⟨m, hm⟩ := Int.eq_ofNat_of_zero_le g0
  rw [hm] at g1 ⊢
  rcases lt8 (show m < 8 by lia) with rfl | rfl | rfl | rfl | rfl | rfl | rfl | rfl
  · exact ⟨.chr ⟨#[]⟩, rfl, fun _ => rfl⟩
  · exact ⟨.any, rfl, fun _ => rfl⟩
  · exact ⟨.eps, rfl, fun _ => rfl⟩
  · exact ⟨.star, rfl, fun _ => rfl⟩
  · exact ⟨.plus, rfl, fun _ => rfl⟩
  · exact ⟨.opt, rfl, fun _ => rfl⟩
  · exact ⟨.cat, rfl, fun _ => rfl⟩
  · exact ⟨.alt, rfl, fun _ => rfl⟩
theorem kinds_bin (x : Int) : ∃ k : K8, k.need = 2 ∧ k.isChr = false ∧ k.sign = ⟨#[]⟩ ∧ ∀ h : Hp, idx kindsV (.int (6 + x.fmod 2)) h = some (.str k.kind) := by
  have g0 := fmod_lo x (b := 2) (by decide)
  have g1 := fmod_hi x (b := 2) (by decide)
  obtain ⟨m, hm⟩ := Int.eq_ofNat_of_zero_le g0
  rw [hm] at g1 ⊢
  have : m = 0 ∨ m = 1 := by lia
  rcases this with rfl | rfl
  · exact ⟨.cat, rfl, rfl, rfl, fun _ => rfl⟩
  · exact ⟨.alt, rfl, rfl, rfl, fun _ => rfl⟩
theorem ab9 (x : Int) : ∃ c, (c ≠ 46 ∧ c < 0x110000) ∧ ∀ h : Hp, idx (V.str ⟨#[97, 97, 98, 98, 57]⟩) (.int (x.fmod 5)) h = some (.str ⟨#[c]⟩) := by
  have g0 := fmod_lo x (b := 5) (by decide)
  have g1 := fmod_hi x (b := 5) (by decide)
  obtain ⟨m, hm⟩ := Int.eq_ofNat_of_zero_le g0
  rw [hm] at g1 ⊢
  rcases lt5 (show m < 5 by lia) with rfl | rfl | rfl | rfl | rfl
  · exact ⟨97, by decide, fun _ => rfl⟩
  · exact ⟨97, by decide, fun _ => rfl⟩
  · exact ⟨98, by decide, fun _ => rfl⟩
  · exact ⟨98, by decide, fun _ => rfl⟩
  · exact ⟨57, by decide, fun _ => rfl⟩
theorem lt_n (a m : Nat) (hh : Hp) : cmpop .Lt (.int m) (.int a) hh = some (decide (m < a)) := by rw [ci_lt]; congr 1; exact decide_eq_decide.mpr Int.ofNat_lt

/-- the names of a turn -/
structure JE (W t : Hp) (s : Str) (pp r : Nat) (ρ : Rho) : Prop where
  script : ρ n_script = some (.ref 0)
  words : ρ n_words = some (.ref pp)
  text : ρ n_text = some (.str s)
  post : ρ n_post = some (.ref W.length)
  langs : ρ n_langs = some (.ref r)
theorem JE.up {W t : Hp} {s : Str} {pp r : Nat} {ρ : Rho} {x : Str} {v : V} (N : JE W t s pp r ρ) (h1 : n_script ≠ x) (h2 : n_words ≠ x) (h3 : n_text ≠ x) (h4 : n_post ≠ x) (h5 : n_langs ≠ x) : JE W t s pp r (upd ρ x v) :=
  ⟨(un h1).trans N.script, (un h2).trans N.words, (un h3).trans N.text, (un h4).trans N.post, (un h5).trans N.langs⟩
/-- the heap of a turn -/
structure JH (W : Hp) (t : List Nat) (i r : Nat) (ks : List K8) (fs : List Bf) (rs : List Nat) (h' : Hp) : Prop where
  at_ : h'[r]? = some (rfs rs)
  gt : W.length < r
  heap : ∃ L, h' = W ++ ks.map K8.tup :: L
  stk : WStk h' t (W.length + 1) (10 * 2 ^ i) rs fs
  rd : AllRd (t.length + 1) fs
  sem : sms t ks [] = some fs
  fine : ∀ k ∈ ks, k.fine
  len : ks.length = i
  rl : rs.length ≤ i
section
variable {W : Hp} {t : List Nat} {ps : List (List Nat)} {pp i r b : Nat} {ks : List K8} {fs fs' : List Bf} {rs : List Nat} {h' : Hp} {k : K8}
theorem JH.add (d : Nat) (P : Pcs t ps) (hp : W[pp]? = some (wV ps)) (ht : t.length ≤ 3) (hb : b ≤ W.length) (hi : i ≤ 12) (I : JH W t i r ks fs rs h') (kf : k.fine) (hs : smStep t k fs = some fs') :
    ∃ h1, callM b m_append (.ref W.length) [.tup [.str k.kind, .str k.sign]] h' = some (.none, h1) ∧ ∃ r' L rs', (G (d + 5)).fn f_law_put [.ref r, .str k.kind, .str k.sign, .ref pp] h1 = some (.ref r', h1 ++ L) ∧ JH W t (i + 1) r' (ks ++ [k]) fs' rs' (h1 ++ L) := by
  obtain ⟨L0, rfl⟩ := I.heap
  have hl := I.len
  have hrl := I.rl
  have hgt := I.gt
  have ha := append_ref (W ++ ks.map K8.tup :: L0) b (.tup [.str k.kind, .str k.sign]) get_ref hb (by rw [List.length_map]; lia)
  have hkk : ks.map K8.tup ++ [.tup [.str k.kind, .str k.sign]] = (ks ++ [k]).map K8.tup := by rw [List.map_append]; rfl
  refine ⟨_, ha, ?_⟩
  have hat : ((W ++ ks.map K8.tup :: L0).set W.length (ks.map K8.tup ++ [.tup [.str k.kind, .str k.sign]]))[r]? = some (rfs rs) := by rw [List.getElem?_set_ne (by lia)]; exact I.at_
  have hst := I.stk.set (show W.length < W.length + 1 by lia) (ks.map K8.tup ++ [.tup [.str k.kind, .str k.sign]])
  rw [set_mid, hkk] at hat hst
  rw [set_mid, hkk]
  have hpw : 2 ^ i ≤ 2 ^ 12 := Nat.pow_le_pow_right (by decide) hi
  have hp1 : 1 ≤ 2 ^ i := Nat.one_le_two_pow
  obtain ⟨r', L, rs', e, e2, e3, e4, e5⟩ := put_spec d P (get_pre _ hp) ht kf hs hat hst I.rd (by lia) (by lia) (by lia) (by simp)
  refine ⟨r', L, rs', e, e2, ?_, ⟨L0 ++ L, by simp⟩, ?_, sm_rd hs I.rd, by rw [sms_app, I.sem]; exact hs, ?_, by simp [hl], by lia⟩
  · rw [List.length_append] at e5; simp at e5; lia
  · rw [show 10 * 2 ^ (i + 1) = 2 * (10 * 2 ^ i) by rw [Nat.pow_succ]; lia]; exact e3
  · intro y hy
    rcases List.mem_append.mp hy with q | q
    · exact I.fine y q
    · simp at q; subst q; exact kf
end
/-- what a turn leaves -/
noncomputable def JOut (W : Hp) (t : List Nat) (pp i : Nat) (Q : Nat → Prop) (r : Option (Fl × Rho × Hp)) : Prop := ∃ ρ' h'' r' ks' fs' rs', r = some (.next, ρ', h'') ∧ JE W W (S t) pp r' ρ' ∧ JH W t (i + 1) r' ks' fs' rs' h'' ∧ Q fs'.length
section
variable {W : Hp} {t : List Nat} {ps : List (List Nat)} {pp i r b d : Nat} {ks : List K8} {fs fs' : List Bf} {rs : List Nat} {h' : Hp} {k : K8} {ρ : Rho} {Q : Nat → Prop} {x : Int} {ns : List Int}
theorem JOut.bs {α : Type} {o : Option α} {a : α} {F : α → Option (Fl × Rho × Hp)} (e : o = some a) (k : JOut W t pp i Q (F a)) : JOut W t pp i Q (o.bind F) := by rw [e]; exact k
theorem j578 (P : Pcs t ps) (hp : W[pp]? = some (wV ps)) (ht : t.length ≤ 3) (hb : b ≤ W.length) (hi : i ≤ 12) (N : JE W W (S t) pp r ρ) (I : JH W t i r ks fs rs h') (kf : k.fine) (hs : smStep t k fs = some fs') (hQ : Q fs'.length) (hk : ρ n_kind = some (.str k.kind)) (hc : ρ n_c = some (.str k.sign)) : JOut W t pp i Q (law_b578 (d + 4) b ρ h') := by
  obtain ⟨h1, e1, r', L, rs', e2, I'⟩ := I.add d P hp ht hb hi kf hs
  unfold law_b578
  refine .bs N.post (.bs hk (.bs hc (.bs e1 ?_)))
  show JOut W t pp i Q (law_b573 _ _ _ _)
  unfold law_b573
  refine .bs N.langs (.bs hk (.bs hc (.bs N.words (.bs e2 ?_))))
  exact ⟨_, _, r', _, _, rs', rfl, ⟨(un (by decide)).trans N.script, (un (by decide)).trans N.words, (un (by decide)).trans N.text, (un (by decide)).trans N.post, us⟩, I', hQ⟩
theorem j617 (P : Pcs t ps) (hp : W[pp]? = some (wV ps)) (ht : t.length ≤ 3) (hb : b ≤ W.length) (hi : i ≤ 12) (N : JE W W (S t) pp r ρ) (I : JH W t i r ks fs rs h') (kf : k.fine) (hs : smStep t k fs = some fs') (hQ : Q fs'.length) (hk : ρ n_kind = some (.str k.kind)) (hc : k.sign = ⟨#[]⟩) : JOut W t pp i Q (law_b617 (d + 4) b ρ h') := by
  obtain ⟨h1, e1, r', L, rs', e2, I'⟩ := I.add d P hp ht hb hi kf hs
  rw [hc] at e1 e2
  unfold law_b617
  refine .bs N.post (.bs hk (.bs e1 ?_))
  show JOut W t pp i Q (law_b613 _ _ _ _)
  unfold law_b613
  refine .bs N.langs (.bs hk (.bs N.words (.bs e2 ?_)))
  exact ⟨_, _, r', _, _, rs', rfl, ⟨(un (by decide)).trans N.script, (un (by decide)).trans N.words, (un (by decide)).trans N.text, (un (by decide)).trans N.post, us⟩, I', hQ⟩
theorem j625 (P : Pcs t ps) (hp : W[pp]? = some (wV ps)) (h0 : W[0]? = some (ns.map V.int)) (ht : t.length ≤ 3) (hb : b ≤ W.length) (hi : i ≤ 12) (j : Nat) (N : JE W W (S t) pp r ρ) (I : JH W t i r ks fs rs h') (hl : 2 ≤ fs.length) (hQ : Q (fs.length - 1)) : JOut W t pp i Q (law_l608 (d + 4) b (.int j) ρ h') := by
  obtain ⟨L0, hL0⟩ := I.heap
  have h0' : h'[0]? = some (ns.map V.int) := by rw [hL0]; exact get_pre _ h0
  obtain ⟨k, k1, k2, k3, k4⟩ := kinds_bin (cell ns (9 + j))
  obtain ⟨fs', e1, e2⟩ := sm_ex t (k := k) (fs := fs) (by lia)
  unfold law_l608 law_b625
  refine .bs ((un (by decide)).trans N.script) (.bs us (.bs (bi_add ..) (.bs (cell_at (d + 3) ns h' h0' (9 + j) rfl) (.bs (bi_mod _ _ (by decide)) (.bs (bi_add ..) (.bs (k4 _) ?_))))))
  exact j617 P hp ht hb hi ((N.up (by decide) (by decide) (by decide) (by decide) (by decide)).up (by decide) (by decide) (by decide) (by decide) (by decide)) I (fine0 k2) e1 (by rw [show fs'.length = fs.length - 1 by lia]; exact hQ) us k3
theorem j586 (P : Pcs t ps) (hp : W[pp]? = some (wV ps)) (ht : t.length ≤ 3) (hb : b ≤ W.length) (hi : i ≤ 12) (N : JE W W (S t) pp r ρ) (I : JH W t i r ks fs rs h') (hk : ρ n_kind = some (.str k.kind)) (hsg : k.sign = ⟨#[]⟩) (hx : ρ n_cell = some (.int x)) (hn : k.need ≤ fs.length) : JOut W t pp i (1 ≤ ·) (law_b586 (d + 4) b ρ h') := by
  unfold law_b586 law_b585
  have N2 : JE W W (S t) pp r (upd ρ n_c (.str ⟨#[]⟩)) := N.up (by decide) (by decide) (by decide) (by decide) (by decide)
  have hk2 : upd ρ n_c (.str ⟨#[]⟩) n_kind = some (.str k.kind) := (un (by decide)).trans hk
  refine .bs hk2 ?_
  cases hck : k.isChr with
  | true =>
    cases k with
    | chr s =>
      refine .bs (ke (.chr s) _ true _ rfl) ?_
      rw [if_pos rfl]
      unfold law_b582
      obtain ⟨c, ⟨c1, c2⟩, hc⟩ := ab9 x
      refine .bs ((un (by decide)).trans hx) (.bs (bi_mod _ _ (by decide)) (.bs (hc _) ?_))
      exact j578 (k := .chr ⟨#[c]⟩) P hp ht hb hi (N2.up (by decide) (by decide) (by decide) (by decide) (by decide)) I (fineC c1 c2) rfl (by simp) ((un (by decide)).trans hk2) us
    | _ => cases hck
  | false =>
    have hne : (k.kind == ⟨#[99, 104, 114]⟩) = false := by cases k <;> first | decide | cases hck
    refine .bs (ke k _ false _ hne) ?_
    rw [if_neg Bool.false_ne_true]
    obtain ⟨fs', e1, e2⟩ := sm_ex t hn
    exact j578 P hp ht hb hi N2 I (fine0 hck) e1 (by lia) hk2 (by rw [hsg]; exact us)
theorem j567 (P : Pcs t ps) (hp : W[pp]? = some (wV ps)) (h0 : W[0]? = some (ns.map V.int)) (ht : t.length ≤ 3) (hb : b ≤ W.length) (hi : i ≤ 12) (j : Nat) (N : JE W W (S t) pp r ρ) (I : JH W t i r ks fs rs h') : JOut W t pp i (1 ≤ ·) (law_l567 (d + 4) b (.int (5 + j)) ρ h') := by
  obtain ⟨L0, hL0⟩ := I.heap
  have h0' : h'[0]? = some (ns.map V.int) := by rw [hL0]; exact get_pre _ h0
  unfold law_l567 law_b601
  refine .bs ((un (by decide)).trans N.script) (.bs us (.bs (cell_at (d + 3) ns h' h0' (5 + j) rfl) ?_))
  generalize cell ns (5 + j) = x
  obtain ⟨k, k1, k2⟩ := kinds_idx x
  unfold law_b597
  refine .bs us (.bs (bi_mod _ _ (by decide)) (.bs (k2 _) ?_))
  have N1 : JE W W (S t) pp r (upd (upd (upd ρ n_k (.int (5 + j))) n_cell (.int x)) n_kind (.str k.kind)) := ((N.up (by decide) (by decide) (by decide) (by decide) (by decide)).up (by decide) (by decide) (by decide) (by decide) (by decide)).up (by decide) (by decide) (by decide) (by decide) (by decide)
  have hx : upd (upd (upd ρ n_k (.int (5 + j))) n_cell (.int x)) n_kind (.str k.kind) n_cell = some (.int x) := (un (by decide)).trans us
  have hk : upd (upd (upd ρ n_k (.int (5 + j))) n_cell (.int x)) n_kind (.str k.kind) n_kind = some (.str k.kind) := us
  generalize upd (upd (upd ρ n_k (.int (5 + j))) n_cell (.int x)) n_kind (.str k.kind) = ρ2 at N1 hx hk
  unfold law_b593
  have hlen : (rfs rs).length = fs.length := by rw [← I.stk.len]; simp [rfs]
  refine .bs N1.langs (.bs (len_ref h' I.at_) (.bs hk (.bs (need_eq k) (.bs (lt_n k.need (rfs rs).length h') ?_))))
  rw [hlen]
  by_cases q : fs.length < k.need
  · rw [if_pos (decide_eq_true q)]
    unfold law_b587
    exact j586 (k := .chr ⟨#[]⟩) P hp ht hb hi (N1.up (by decide) (by decide) (by decide) (by decide) (by decide)) I us rfl ((un (by decide)).trans hx) (Nat.zero_le _)
  · rw [if_neg (fun z => q (of_decide_eq_true z))]
    exact j586 P hp ht hb hi N1 I hk k1 hx (by lia)
end
end Mine
end

section
set_option autoImplicit false
set_option maxRecDepth 100000
namespace Mine
open PySem Builtin Builtin.Str

theorem sb_slice {t : List Nat} {i j : Nat} (h1 : i ≤ j) (h2 : j ≤ t.length) (h : Hp) : slice (.str (S t)) (.int i) (.int j) .none h = some (.str (S (sb t i j)), h) := by
  simp only [slice, partV, Option.bind_some, S_list, cutL, Option.elim]
  have c1 : clipAt t.length (i : Int) = i := by unfold clipAt; rw [if_neg (by lia)]; lia
  have c2 : clipAt t.length (j : Int) = j := by unfold clipAt; rw [if_neg (by lia)]; lia
  rw [c1, c2]
  unfold sb
  rw [List.drop_take]
  rfl
noncomputable def rowQ (t : List Nat) (i : Nat) : List (List Nat) := (List.range (t.length - i)).map fun b => sb t i (i + 1 + b)
noncomputable def Qs (t : List Nat) : Nat → List (List Nat)
  | 0 => []
  | i + 1 => Qs t i ++ rowQ t i
theorem Qs_mem {t : List Nat} : ∀ {n i j : Nat}, i < n → i < j → j ≤ t.length → sb t i j ∈ Qs t n
  | n + 1, i, j, h1, h2, h3 => by
    unfold Qs
    rw [List.mem_append]
    by_cases e : i = n
    · subst e
      refine .inr (List.mem_map.mpr ⟨j - i - 1, List.mem_range.mpr (by lia), ?_⟩)
      rw [show i + 1 + (j - i - 1) = j by lia]
    · exact .inl (Qs_mem (by lia) h2 h3)
theorem Qs_of {t : List Nat} : ∀ {n : Nat} {w : List Nat}, w ∈ Qs t n → ∃ i j, j ≤ t.length ∧ w = sb t i j
  | n + 1, w, h => by
    unfold Qs at h
    rcases List.mem_append.mp h with h | h
    · exact Qs_of h
    · obtain ⟨b, hb, rfl⟩ := List.mem_map.mp h
      have := List.mem_range.mp hb
      exact ⟨n, n + 1 + b, by lia, rfl⟩
theorem pcs_of {t : List Nat} (ht : t.length ≤ 3) (hw : Wok t) : Pcs t ([[]] ++ Qs t t.length) := by
  have ok : AllW ([[]] ++ Qs t t.length) := fun w hm => by
    rcases List.mem_append.mp hm with q | q
    · simp at q; subst q; intro c hc; cases hc
    · obtain ⟨i, j, _, rfl⟩ := Qs_of q
      exact fun c hc => hw c (List.mem_of_mem_take (List.mem_of_mem_drop hc))
  refine ⟨fun i j h1 h2 => ?_, ok, ?_, fun w hm => ?_, by lia, hw⟩
  · by_cases e : i = j
    · subst e
      have : sb t i i = [] := List.length_eq_zero_iff.mp (by rw [sb_len h2]; lia)
      rw [this]; simp
    · exact List.mem_append_right _ (Qs_mem (by lia) (by lia) h2)
  · have : t.length = 0 ∨ t.length = 1 ∨ t.length = 2 ∨ t.length = 3 := by lia
    rcases this with e | e | e | e <;> rw [e] <;> simp [Qs, rowQ, e]
  · rcases List.mem_append.mp hm with q | q
    · simp at q; subst q; simp
    · obtain ⟨i, j, hj, rfl⟩ := Qs_of q
      rw [sb_len hj]; lia
theorem range_from {lo n : Nat} (h : lo ≤ n) : rangeV (lo : Int) (n : Int) = (List.range (n - lo)).map fun b : Nat => V.int ((lo + b : Nat) : Int) := by
  unfold rangeV
  rw [show ((n : Int) - lo).toNat = n - lo by lia]
  apply List.map_congr_left
  intro b _
  congr 1
/-- the inner turns -/
theorem pieces_row {t : List Nat} {hh : Hp} {xs : List (List Nat)} {i : Nat} (hi : i < t.length) (ht : t.length ≤ 3) (hx : xs.length ≤ 1000) :
    loopL none (rangeV ((i + 1 : Nat) : Int) ((t.length + 1 : Nat) : Int)) (fun x579 h580 => (slice (.str (S t)) (.int i) x579 V.none h580).bind fun p581 => appendTo hh.length p581.1 p581.2) (rangeV ((i + 1 : Nat) : Int) ((t.length + 1 : Nat) : Int)) (hh ++ [wV xs]) = some (hh ++ [wV (xs ++ rowQ t i)]) := by
  rw [range_from (show i + 1 ≤ t.length + 1 by lia)]
  rw [loopL_app (v := fun z => V.str (S (sb t i (vN z)))) _ (wV xs) (fun z hz ys hy => by
    obtain ⟨b, hb, rfl⟩ := List.mem_map.mp hz
    have hb := List.mem_range.mp hb
    rw [sb_slice (show i ≤ i + 1 + b by lia) (by lia)]
    simp only [Option.bind_some]
    rw [appendTo_last _ (by lia)]
    rfl) (by simp [wV]; lia)]
  congr 2
  simp only [wV, rowQ, List.map_append, List.map_map, show t.length + 1 - (i + 1) = t.length - i by lia]
  congr 2
theorem foldl_app (z : Str) : ∀ (ps : List Str) (acc : Array Nat),
    (ps.foldl (fun acc p => acc ++ z.cps ++ p.cps) acc).toList = acc.toList ++ (ps.map (fun p => z.cps.toList ++ p.cps.toList)).flatten
  | [], acc => by simp
  | p :: ps, acc => by rw [List.foldl_cons, foldl_app z ps]; simp
theorem strsOf_marks : ∀ l : List Nat, strsOf (l.map fun m => V.str ⟨#[m]⟩) = some (l.map fun m => (⟨#[m]⟩ : Str))
  | [] => rfl
  | m :: l => by simp only [List.map_cons, strsOf, strsOf_marks l, Option.map_some]
theorem foldl_len : ∀ (l : List Nat) (n : Nat), (l.map fun m => (⟨#[m]⟩ : Str)).foldl (fun a s => a + s.length + (⟨#[]⟩ : Str).length) n = n + l.length
  | [], n => by simp
  | m :: l, n => by
    rw [List.map_cons, List.foldl_cons, foldl_len l]
    simp [Str.length]
    lia
theorem join_marks (b : Nat) {h : Hp} {a : Nat} {l : List Nat} (e : h[a]? = some (l.map fun m => V.str ⟨#[m]⟩)) (hl : l.length ≤ 1000) : callM b m_join (.str ⟨#[]⟩) [.ref a] h = some (.str (S l), h) := by
  rw [join_str]
  simp only [one, refV, joinV, e, Option.bind_some, strsOf_marks]
  have hj : JoinOk ⟨#[]⟩ (l.map fun m => (⟨#[m]⟩ : Str)) = true := by
    unfold JoinOk Builtin.Str.tooLong
    rw [List.foldl_toArray, foldl_len, sizeLine_val]
    simp
    lia
  rw [if_pos hj]
  congr 3
  unfold Txt.join Builtin.Str.glued
  have : ((((l.map fun m => (⟨#[m]⟩ : Str)).drop 1).foldl (fun acc p => acc ++ (⟨#[]⟩ : Str).cps ++ p.cps) ((l.map fun m => (⟨#[m]⟩ : Str)).headD Str.empty).cps)) = l.toArray := by
    rw [← Array.toList_inj, foldl_app ⟨#[]⟩]
    cases l with
    | nil => rfl
    | cons m l =>
      simp only [List.map_cons, List.headD_cons, List.drop_succ_cons, List.drop_zero, List.map_map]
      simp only [List.cons_append, List.nil_append, Function.comp_def, List.flatten_eq_flatMap, List.flatMap_map]
      simp
  rw [this]
  rfl


theorem Qs_len (t : List Nat) : ∀ n, (Qs t n).length ≤ n * t.length
  | 0 => by simp [Qs]
  | n + 1 => by
    have ih := Qs_len t n
    simp only [Qs, rowQ, List.length_append, List.length_map, List.length_range, Nat.succ_mul]; lia
/-- the words -/
theorem words_loop {t : List Nat} (ht : t.length ≤ 3) (hh : Hp) :
    loopL none (rangeV 0 (t.length : Int)) (fun x552 h553 => 
(binop .Add x552 (V.int (1)) h553).bind fun p555 =>
(callB b_len [.str (S t)] p555.2).bind fun p556 =>
(binop .Add p556.1 (V.int (1)) p556.2).bind fun p557 =>
(rangeArgs [p555.1, p557.1]).bind fun r558 =>
loopL none (rangeV r558.1 r558.2) (fun x559 h560 => 
(slice (.str (S t)) x552 x559 V.none h560).bind fun p561 =>
appendTo hh.length p561.1 p561.2) (rangeV r558.1 r558.2) p557.2) (rangeV 0 (t.length : Int)) (hh ++ [[]]) = some (hh ++ [wV (Qs t t.length)]) := by
  obtain ⟨h1, e1, rfl⟩ := loopL_inv (c := none) (all := rangeV 0 (t.length : Int)) (f := fun x552 h553 => 
      (binop .Add x552 (V.int (1)) h553).bind fun p555 =>
      (callB b_len [.str (S t)] p555.2).bind fun p556 =>
      (binop .Add p556.1 (V.int (1)) p556.2).bind fun p557 =>
      (rangeArgs [p555.1, p557.1]).bind fun r558 =>
      loopL none (rangeV r558.1 r558.2) (fun x559 h560 => 
      (slice (.str (S t)) x552 x559 V.none h560).bind fun p561 =>
      appendTo hh.length p561.1 p561.2) (rangeV r558.1 r558.2) p557.2) (fun i h' => h' = hh ++ [wV (Qs t i)])
    (fun i x h' hx hI => by
      subst hI
      have e0 : ∀ m : Nat, (m : Int) = 0 + m := fun m => (Int.zero_add _).symm
      have hlt : i < t.length := by
        have h1 := (List.getElem?_eq_some_iff.mp hx).1
        rw [e0 t.length, range_len] at h1; exact h1
      rw [e0 t.length, range_at hlt, ← e0 i] at hx
      cases hx
      have hl : (Qs t i).length ≤ 1000 := by
        have h2 := Qs_len t i
        have h3 : i * t.length ≤ 3 * 3 := Nat.mul_le_mul (by lia) ht
        lia
      refine ⟨rfl, hh ++ [wV (Qs t i ++ rowQ t i)], ?_, rfl⟩
      simp only [bi_add, Option.bind_some, len_str, S_len, cast1]
      rw [rA2 (by lia) (by lia)]
      simp only [Option.bind_some]
      exact pieces_row hlt ht hl)
    (fun _ _ => rfl) (h := hh ++ [[]]) (by simp [Qs, wV])
  rw [e1, show (rangeV 0 (t.length : Int)).length = t.length by simp [rangeV]]
noncomputable def sgn (x : Int) : Nat := (([97, 97, 98, 98, 57, 46] : List Nat)[(x.fmod 6).toNat]?).getD 97
theorem sgn_idx (x : Int) (h : Hp) : idx (V.str ⟨#[97, 97, 98, 98, 57, 46]⟩) (.int (x.fmod 6)) h = some (.str ⟨#[sgn x]⟩) := by
  have g0 := fmod_lo x (b := 6) (by decide)
  have g1 := fmod_hi x (b := 6) (by decide)
  obtain ⟨m, hm⟩ := Int.eq_ofNat_of_zero_le g0
  unfold sgn
  rw [hm] at g1 ⊢
  rcases lt8 (show m < 8 by lia) with rfl | rfl | rfl | rfl | rfl | rfl | rfl | rfl
  iterate 6 rfl
  all_goals exact absurd g1 (by decide)
theorem sgn_lt (x : Int) : sgn x < 0x110000 := by
  unfold sgn
  generalize (x.fmod 6).toNat = m
  cases h : ([97, 97, 98, 98, 57, 46] : List Nat)[m]? with
  | none => decide
  | some c => exact (show ∀ c ∈ ([97, 97, 98, 98, 57, 46] : List Nat), c < 0x110000 by decide) c (List.mem_of_getElem? h)
theorem text_loop (d n : Nat) {ns : List Int} {h : Hp} (h0 : h[0]? = some (ns.map V.int)) (hn : n ≤ 3) :
    loopL none (rangeV 1 (1 + (n : Int))) (fun x543 h544 => 
((G (d + 2)).fn f_law_cell [V.ref 0, x543] h544).bind fun p546 =>
(binop .Mod p546.1 (V.int (6)) p546.2).bind fun p547 =>
(idx (V.str ⟨#[97, 97, 98, 98, 57, 46]⟩) p547.1 p547.2).bind fun v548 =>
appendTo h.length v548 p547.2) (rangeV 1 (1 + (n : Int))) (h ++ [[]]) = some (h ++ [((List.range n).map fun i => sgn (cell ns (1 + i))).map fun m => V.str ⟨#[m]⟩]) := by
  have e : ((1 : Int) + n - 1).toNat = n := by lia
  rw [loopL_app (v := fun z => V.str ⟨#[sgn (cell ns (vN z))]⟩) _ [] (fun z hz xs hx => by
      obtain ⟨i, hi, rfl⟩ := List.mem_map.mp hz
      rw [cell_at d ns (h ++ [xs]) (get_pre _ h0) (1 + i) (by lia), Option.bind_some, bi_mod _ _ (by decide), Option.bind_some, sgn_idx, Option.bind_some, appendTo_last _ (by lia)]
      rw [show vN (V.int (1 + (i : Int))) = 1 + i by simp [vN]; lia]) (by simp [rangeV, e]; lia)]
  congr 3
  simp only [rangeV, List.map_map, e, List.nil_append]
  apply List.map_congr_left
  intro j _
  have : vN (V.int (1 + (j : Int))) = 1 + j := by simp [vN]; lia
  simp only [Function.comp_def, this]
theorem loop_from {lo : Int} {n : Nat} {f : V → Rho → Hp → Option (Fl × Rho × Hp)} (I : Nat → Rho → Hp → Prop)
    (hstep : ∀ i, i < n → ∀ ρ h, I i ρ h → ∃ ρ' h', f (.int (lo + i)) ρ h = some (.next, ρ', h') ∧ I (i + 1) ρ' h') {ρ : Rho} {h : Hp} (h0 : I 0 ρ h) :
    ∃ ρ' h', loopS none (rangeV lo (lo + n)) f (rangeV lo (lo + n)) ρ h = some (.next, ρ', h') ∧ I n ρ' h' := by
  have := loopS_rule (c := none) (all := rangeV lo (lo + n)) (f := f) I (fun i x ρ h hx hi => by
    have hlt : i < n := by
      have h1 := (List.getElem?_eq_some_iff.mp hx).1
      rw [range_len] at h1; exact h1
    rw [range_at hlt] at hx
    cases hx
    obtain ⟨ρ', h', e1, e2⟩ := hstep i hlt ρ h hi
    exact ⟨rfl, ρ', h', Or.inl e1, e2⟩) (fun _ _ _ => rfl) h0
  rw [range_len] at this
  exact this
end Mine
end

section
set_option autoImplicit false
set_option maxRecDepth 100000
namespace Mine
open PySem
section
variable {W : Hp} {t : List Nat} {ps : List (List Nat)} {pp : Nat} {ns : List Int} {b d : Nat}
/-- both loops' state -/
noncomputable def JS (W : Hp) (t : List Nat) (pp i : Nat) (Q : Nat → Prop) (ρ : Rho) (h' : Hp) : Prop := ∃ r ks fs rs, JE W W (S t) pp r ρ ∧ JH W t i r ks fs rs h' ∧ Q fs.length
theorem sm_le {t : List Nat} : ∀ {ks : List K8} {st fs : List Bf}, sms t ks st = some fs → fs.length ≤ ks.length + st.length
  | [], st, fs, h => by cases h; simp
  | k :: ks, st, fs, h => by
    obtain ⟨st', a1, a2⟩ := Option.bind_eq_some_iff.mp h
    have b1 := sm_le a2
    have b2 : st'.length ≤ st.length + 1 := by
      unfold smStep at a1
      split at a1 <;> cases a1 <;> simp <;> lia
    simp only [List.length_cons]
    lia
theorem loop1 (P : Pcs t ps) (hp : W[pp]? = some (wV ps)) (h0 : W[0]? = some (ns.map V.int)) (ht : t.length ≤ 3) (hb : b ≤ W.length) {m : Nat} (hm : m ≤ 3) {ρ : Rho} {h : Hp} (h1 : JS W t pp 0 (fun _ => True) ρ h) :
    ∃ ρ' h', loopS none (rangeV 5 (6 + (m : Int))) (law_l567 (d + 4) b) (rangeV 5 (6 + (m : Int))) ρ h = some (.next, ρ', h') ∧ ∃ D, 1 ≤ D ∧ D ≤ m + 1 ∧ JS W t pp (m + 1) (· = D) ρ' h' := by
  obtain ⟨ρ', h', e, hI⟩ := loop_from (lo := 5) (n := m + 1) (f := law_l567 (d + 4) b) (fun i ρ h => JS W t pp i (fun D => i = 0 ∨ 1 ≤ D) ρ h) (fun i hi ρ h hI => by
      obtain ⟨r, ks, fs, rs, N, I, _⟩ := hI
      obtain ⟨ρ', h'', r', ks', fs', rs', e, N', I', q⟩ := j567 (d := d) P hp h0 ht hb (by lia) i N I
      exact ⟨ρ', h'', e, r', ks', fs', rs', N', I', .inr q⟩)
    (ρ := ρ) (h := h) (by obtain ⟨r, ks, fs, rs, N, I, _⟩ := h1; exact ⟨r, ks, fs, rs, N, I, .inl rfl⟩)
  have e5 : (5 : Int) + ((m + 1 : Nat) : Int) = 6 + m := by lia
  rw [e5] at e
  obtain ⟨r, ks, fs, rs, N, I, q⟩ := hI
  have hq : 1 ≤ fs.length := by rcases q with q | q; cases q; exact q
  have hle := sm_le I.sem
  have hl := I.len
  exact ⟨ρ', h', e, fs.length, hq, by rw [List.length_nil] at hle; lia, r, ks, fs, rs, N, I, rfl⟩
theorem loop2 (P : Pcs t ps) (hp : W[pp]? = some (wV ps)) (h0 : W[0]? = some (ns.map V.int)) (ht : t.length ≤ 3) (hb : b ≤ W.length) {i D : Nat} (hi : i ≤ 4) (hD : 1 ≤ D) (hD2 : D ≤ 4) {ρ : Rho} {h : Hp} (h1 : JS W t pp i (· = D) ρ h) :
    ∃ ρ' h', loopS none (rangeV 0 ((D - 1 : Nat) : Int)) (law_l608 (d + 4) b) (rangeV 0 ((D - 1 : Nat) : Int)) ρ h = some (.next, ρ', h') ∧ ∃ i', i' ≤ 8 ∧ JS W t pp i' (· = 1) ρ' h' := by
  obtain ⟨ρ', h', e, hI⟩ := loop_range (n := D - 1) (f := law_l608 (d + 4) b) (fun j ρ h => JS W t pp (i + j) (· = D - j) ρ h) (fun j hj ρ h hI => by
      obtain ⟨r, ks, fs, rs, N, I, q⟩ := hI
      have q : fs.length = D - j := q
      obtain ⟨ρ', h'', r', ks', fs', rs', e, N', I', q⟩ := j625 (d := d) (Q := (· = D - (j + 1))) P hp h0 ht hb (by lia) j N I (by lia) (show fs.length - 1 = D - (j + 1) by lia)
      exact ⟨ρ', h'', e, r', ks', fs', rs', N', I', q⟩) (ρ := ρ) (h := h) h1
  rw [show D - (D - 1) = 1 by lia] at hI
  exact ⟨ρ', h', e, i + (D - 1), by lia, hI⟩
noncomputable def law_end (d : Nat) (ρ : Rho) (h : Hp) : Option (V × Hp) :=
(ρ n_text).bind fun v628 =>
(ρ n_langs).bind fun v629 =>
(idx v629 (V.int (0)) h).bind fun v630 =>
(cmpop .In v628 v630 h).bind fun t631 =>
(ρ n_post).bind fun v632 =>
(binop .Add v632 (V.ref h.length) (h ++ [[]])).bind fun p633 =>
(ρ n_post).bind fun v634 =>
(ρ n_text).bind fun v635 =>
((G (d + 1)).fn f_law_the_backtracker_means_it [v634, v635] p633.2).bind fun p636 =>
(cmpop .IsNot p636.1 (V.bool true) p636.2).bind fun t637 =>
if t637 then
some ((V.bool false), p636.2)
else
(ρ n_post).bind fun v638 =>
(cmpop .NotEq v638 p633.1 p636.2).bind fun t639 =>
if t639 then
some ((V.bool false), p636.2)
else
(ρ n_post).bind fun v640 =>
(ρ n_text).bind fun v641 =>
((G (d + 1)).fn f_means [v640, v641] p636.2).bind fun p642 =>
(cmpop .NotEq p642.1 (V.bool t631) p642.2).bind fun t643 =>
if t643 then
some ((V.bool false), p642.2)
else
some ((V.bool true), p642.2)
theorem end_ok (hw : Wok t) (ht : t.length ≤ 3) {i : Nat} (hi : i ≤ 8) {ρ : Rho} {h : Hp} (h1 : JS W t pp i (· = 1) ρ h) : ∃ H', law_end (d + 5) ρ h = some (.bool true, H') := by
  obtain ⟨r, ks, fs, rs, N, I, q⟩ := h1
  obtain ⟨f, rfl⟩ : ∃ f, fs = [f] := by
    cases fs with
    | nil => cases q
    | cons f gs => cases gs with
      | nil => exact ⟨f, rfl⟩
      | cons g gs => cases q
  obtain ⟨x, rs', rfl, X, Z⟩ := I.stk.inv
  have := Z.nil_inv
  subst this
  obtain ⟨ws, w1, w2, _⟩ := X.lg
  have top : idx (.ref r) (.int 0) h = some (.ref x) := idx_ref (xs := rfs [x]) I.at_ (by decide) rfl
  have hin : cmpop .In (.str (S t)) (.ref x) h = some (f 0 t.length) := by
    rw [in_wV w1 w2.ok hw]
    congr 1
    rw [Bool.eq_iff_iff, decide_eq_true_eq]
    have := w2.mem 0 t.length (Nat.zero_le _) (Nat.le_refl _)
    rw [show sb t 0 t.length = t by simp [sb]] at this
    exact this
  have hl := I.len
  have hpost : h[W.length]? = some (ks.map K8.tup) := by obtain ⟨L, hL⟩ := I.heap; rw [hL]; exact get_ref
  have hadd := bl_add (h ++ [[]]) (get_pre [[]] hpost) (get_last h []) (by rw [sizeLine_val]; simp; lia)
  rw [List.append_nil] at hadd
  generalize hK : h ++ [[]] = K at hadd
  have hKp : K[W.length]? = some (ks.map K8.tup) := by rw [← hK]; exact get_pre _ hpost
  obtain ⟨L1, m1⟩ := machine_spec d (get_pre [ks.map K8.tup] hKp) (fun k hk => (I.fine k hk).1) I.sem (by lia) ht
  have hKp2 : (K ++ [ks.map K8.tup] ++ L1)[W.length]? = some (ks.map K8.tup) := get_pre _ (get_pre _ hKp)
  have hne := cl_ne hKp2 (get_pre L1 (get_last K (ks.map K8.tup))) (fun v hv => by
    obtain ⟨k, hk, rfl⟩ := List.mem_map.mp hv
    refine K8.rd_ok ?_
    rw [← Array.all_toList, List.all_eq_true]
    intro c hc
    exact decide_eq_true ((I.fine k hk).2 c hc))
  obtain ⟨L2, m2⟩ := means_spec (d + 1) hKp2 I.sem (by lia) (by lia)
  unfold law_end
  rw [N.text, Option.bind_some, N.langs, Option.bind_some, top, Option.bind_some, hin, Option.bind_some, N.post, Option.bind_some]
  rw [hK, hadd, Option.bind_some, Option.bind_some, Option.bind_some, show d + 5 + 1 = d + 6 from rfl, m1, Option.bind_some, cb_isNot, Option.bind_some, show (true != true) = false from rfl, if_neg Bool.false_ne_true, Option.bind_some, hne, Option.bind_some, if_neg Bool.false_ne_true, Option.bind_some, Option.bind_some, show d + 6 = d + 1 + 5 from rfl, m2, Option.bind_some, cb_ne, Option.bind_some, BEq.rfl, Bool.not_true, if_neg Bool.false_ne_true]
  exact ⟨_, rfl⟩
end
theorem run41 (ns : List Int) : ∃ H', (G 8).fn f_law [.ref 0] [ns.map V.int] = some (.bool true, H') := by
  rw [show (8 : Nat) = 6 + 2 from rfl, law_eq]
  unfold law_s
  generalize hh : ([ns.map V.int] : Hp) = h
  have h0 : h[0]? = some (ns.map V.int) := by rw [← hh]; rfl
  have hlen1 : h.length = 1 := by rw [← hh]; rfl
  have g0 := fmod_lo (cell ns 0) (b := 4) (by decide)
  have g1 := fmod_hi (cell ns 0) (b := 4) (by decide)
  obtain ⟨n, hn⟩ := Int.eq_ofNat_of_zero_le g0
  rw [hn] at g1
  have hn3 : n ≤ 3 := by lia
  have tl := text_loop 5 n h0 hn3
  have c0 : (G (6 + 1)).fn f_law_cell [V.ref 0, V.int 0] h = some (.int (cell ns 0), h) := cell_at 5 ns h h0 0 rfl
  dsimp only
  rw [c0, Option.bind_some, bi_mod _ _ (by decide), Option.bind_some, hn, bi_add, Option.bind_some, rA2 (by decide) (by lia), Option.bind_some]
  dsimp only
  rw [show (6 : Nat) + 1 = 5 + 2 from rfl, tl, Option.bind_some]
  generalize ht : ((List.range n).map fun i => sgn (cell ns (1 + i))) = t
  have hlen : t.length = n := by rw [← ht]; simp
  have ht3 : t.length ≤ 3 := by lia
  have hw : Wok t := fun c hc => by
    rw [← ht] at hc
    obtain ⟨i, _, rfl⟩ := List.mem_map.mp hc
    exact sgn_lt _
  rw [join_marks _ (get_last h _) (show t.length ≤ 1000 by lia), Option.bind_some, len_str, Option.bind_some, S_len, rA1 (by lia), Option.bind_some]
  dsimp only
  generalize hH : h ++ [t.map fun m => V.str ⟨#[m]⟩] = H
  have hH0 : H[0]? = some (ns.map V.int) := by rw [← hH]; exact get_pre _ h0
  have hHl : 1 ≤ H.length := by rw [← hH]; simp
  have P := pcs_of ht3 hw
  have hpl := P.len
  rw [words_loop ht3, Option.bind_some]
  have hg : (H ++ [[V.str ⟨#[]⟩]] ++ [wV (Qs t t.length)])[H.length]? = some [V.str ⟨#[]⟩] := get_pre _ (get_last H _)
  have hadd : binop .Add (V.ref H.length) (V.ref (H ++ [[V.str ⟨#[]⟩]]).length) (H ++ [[V.str ⟨#[]⟩]] ++ [wV (Qs t t.length)]) = some (.ref (H ++ [[V.str ⟨#[]⟩]] ++ [wV (Qs t t.length)]).length, H ++ [[V.str ⟨#[]⟩]] ++ [wV (Qs t t.length)] ++ [wV ([[]] ++ Qs t t.length)]) := by
    rw [bl_add _ hg (get_last (H ++ [[V.str ⟨#[]⟩]]) _) (by rw [sizeLine_val]; simp [wV] at hpl ⊢; lia)]
    rfl
  rw [hadd, Option.bind_some]
  dsimp only
  generalize hW : H ++ [[V.str ⟨#[]⟩]] ++ [wV (Qs t t.length)] ++ [wV ([[]] ++ Qs t t.length)] = W
  have hpp : W[(H ++ [[V.str ⟨#[]⟩]] ++ [wV (Qs t t.length)]).length]? = some (wV ([[]] ++ Qs t t.length)) := by rw [← hW]; exact get_last _ _
  generalize (H ++ [[V.str ⟨#[]⟩]] ++ [wV (Qs t t.length)]).length = pp at hpp
  have hW0 : W[0]? = some (ns.map V.int) := by rw [← hW]; exact get_pre _ (get_pre _ (get_pre _ hH0))
  have hWl : h.length ≤ W.length := by rw [← hW, ← hH]; simp
  have k0 := fmod_lo (cell ns 4) (b := 4) (by decide)
  have k1 := fmod_hi (cell ns 4) (b := 4) (by decide)
  obtain ⟨m, hm⟩ := Int.eq_ofNat_of_zero_le k0
  rw [hm] at k1
  have c4 : (G (5 + 2)).fn f_law_cell [V.ref 0, V.int 4] (W ++ [[]] ++ [[]]) = some (.int (cell ns 4), W ++ [[]] ++ [[]]) := cell_at 5 ns (W ++ [[]] ++ [[]]) (get_pre _ (get_pre _ hW0)) 4 rfl
  rw [c4, Option.bind_some, bi_mod _ _ (by decide), Option.bind_some, hm, bi_add, Option.bind_some, rA2 (by decide) (by lia), Option.bind_some]
  dsimp only
  obtain ⟨ρ1, h1, e1, D, d1, d2, J1⟩ := loop1 (d := 2) (b := h.length) P hpp hW0 ht3 hWl (show m ≤ 3 by lia) (ρ := upd (upd (upd (upd (fun x => List.lookup x (List.zip [n_script] [V.ref 0]).reverse) n_text (.str (S t))) n_words (.ref pp)) n_post (V.ref W.length)) n_langs (V.ref (W ++ [[]]).length)) (h := W ++ [[]] ++ [[]])
    ⟨(W ++ [[]]).length, [], [], [], ⟨(un (by decide)).trans ((un (by decide)).trans ((un (by decide)).trans ((un (by decide)).trans rfl))), (un (by decide)).trans ((un (by decide)).trans us), (un (by decide)).trans ((un (by decide)).trans ((un (by decide)).trans us)), (un (by decide)).trans us, us⟩, ⟨get_last _ _, by simp, ⟨[[]], by simp⟩, .nil, (fun _ hf => nomatch hf), rfl, (fun _ hf => nomatch hf), rfl, Nat.le_refl _⟩, trivial⟩
  rw [e1, Option.bind_some]
  dsimp only
  obtain ⟨r, ks, fs, rs, N, I, hD⟩ := J1
  have hD : fs.length = D := hD
  have hrl : (rfs rs).length = D := by rw [← hD, ← I.stk.len]; simp [rfs]
  rw [N.langs, Option.bind_some, len_ref h1 I.at_, Option.bind_some, hrl, bi_sub, Option.bind_some, show (D : Int) - 1 = ((D - 1 : Nat) : Int) by lia, rA1 (by lia), Option.bind_some]
  obtain ⟨ρ2, h2, e2, i', hi', J2⟩ := loop2 (d := 2) (b := h.length) P hpp hW0 ht3 hWl (show m + 1 ≤ 4 by lia) d1 (by lia) ⟨r, ks, fs, rs, N, I, hD⟩
  dsimp only
  rw [show (6 : Nat) = 2 + 4 from rfl, e2, Option.bind_some]
  exact end_ok (d := 1) hw ht3 hi' J2
end Mine
end

open PySem PySem.W PyProof.Rows
set_option maxRecDepth 100000
set_option maxHeartbeats 8000000
namespace Mine
noncomputable def fdO (i : Nat) (pm cd : Value) : FuncData := match PySem.Challenge.pw_k12_0041.main.body[i]? with
  | some (.FunctionDef n ps body _ _ _ sc _ _ _) => { name := n, qualname := n, params := ps, body := .stmts body, scope := sc, globals := 3, closure := [], defaults := .none, kwdefaults := .none, pyModule := pm, code := cd, builtins := 0 }
  | _ => default
noncomputable def fO (i : Nat) (pm cd : Value) : Obj := { cls := .type "function", data := .func (fdO i pm cd) }
noncomputable def fnAt (i : Nat) : Str × FnD := (fnList PySem.Challenge.pw_k12_0041.main.body).getD i ("", ⟨[], [], { kind := .function, names := [], isGenerator := false, isCoroutine := false }⟩)
theorem fnL : fnList PySem.Challenge.pw_k12_0041.main.body = [fnAt 0, fnAt 1, fnAt 2, fnAt 3, fnAt 4, fnAt 5, fnAt 6, fnAt 7, fnAt 8, fnAt 9, fnAt 10, fnAt 11, fnAt 12, fnAt 13, fnAt 14, fnAt 15] := by kernel_rfl
noncomputable def ent (P : Params) (n : String) (t : Nat) (v : Value) : DictEntry := { hash := PyData.keyHash P (Str.ofString n), key := .str (Str.ofString n) t, val := v }
noncomputable def c18 : Array Value := #[Value.str (Str.ofString "blank_table") 189, Value.str (Str.ofString "blank_table") 190, Value.str (Str.ofString "/claim/cut.py") 191, Value.int 2 0, Value.int 1 0, Value.int 0 0, Value.int 0 0, Value.int 3 0, Value.ref 15, Value.bool true, Value.int 181 0, Value.ref 16, Value.none, Value.none, Value.none, Value.ref 17, Value.int 192 0, Value.int 2 0, Value.str (Str.ofString "/claim/cut.py") 193]
noncomputable def c25 : Array Value := #[Value.str (Str.ofString "table_of_sign") 195, Value.str (Str.ofString "table_of_sign") 196, Value.str (Str.ofString "/claim/cut.py") 197, Value.int 4 0, Value.int 3 0, Value.int 0 0, Value.int 0 0, Value.int 3 0, Value.ref 20, Value.bool true, Value.int 181 0, Value.ref 21, Value.none, Value.ref 22, Value.ref 23, Value.ref 24, Value.int 204 0, Value.int 4 0, Value.str (Str.ofString "/claim/cut.py") 205]
noncomputable def c32 : Array Value := #[Value.str (Str.ofString "table_cat") 207, Value.str (Str.ofString "table_cat") 208, Value.str (Str.ofString "/claim/cut.py") 209, Value.int 13 0, Value.int 2 0, Value.int 0 0, Value.int 0 0, Value.int 3 0, Value.ref 27, Value.bool true, Value.int 181 0, Value.ref 28, Value.none, Value.ref 29, Value.ref 30, Value.ref 31, Value.int 217 0, Value.int 13 0, Value.str (Str.ofString "/claim/cut.py") 218]
noncomputable def c37 : Array Value := #[Value.str (Str.ofString "table_alt") 220, Value.str (Str.ofString "table_alt") 221, Value.str (Str.ofString "/claim/cut.py") 222, Value.int 23 0, Value.int 2 0, Value.int 0 0, Value.int 0 0, Value.int 3 0, Value.ref 34, Value.bool true, Value.int 181 0, Value.ref 35, Value.none, Value.none, Value.none, Value.ref 36, Value.int 223 0, Value.int 23 0, Value.str (Str.ofString "/claim/cut.py") 224]
noncomputable def c44 : Array Value := #[Value.str (Str.ofString "table_star") 226, Value.str (Str.ofString "table_star") 227, Value.str (Str.ofString "/claim/cut.py") 228, Value.int 25 0, Value.int 1 0, Value.int 0 0, Value.int 0 0, Value.int 3 0, Value.ref 39, Value.bool true, Value.int 181 0, Value.ref 40, Value.none, Value.ref 41, Value.ref 42, Value.ref 43, Value.int 234 0, Value.int 25 0, Value.str (Str.ofString "/claim/cut.py") 235]
noncomputable def c51 : Array Value := #[Value.str (Str.ofString "means") 237, Value.str (Str.ofString "means") 238, Value.str (Str.ofString "/claim/cut.py") 239, Value.int 33 0, Value.int 2 0, Value.int 0 0, Value.int 0 0, Value.int 3 0, Value.ref 46, Value.bool true, Value.int 181 0, Value.ref 47, Value.none, Value.ref 48, Value.ref 49, Value.ref 50, Value.int 247 0, Value.int 33 0, Value.str (Str.ofString "/claim/cut.py") 248]
noncomputable def c58 : Array Value := #[Value.str (Str.ofString "thompson") 250, Value.str (Str.ofString "thompson") 251, Value.str (Str.ofString "/claim/cut.py") 252, Value.int 54 0, Value.int 1 0, Value.int 0 0, Value.int 0 0, Value.int 3 0, Value.ref 53, Value.bool true, Value.int 181 0, Value.ref 54, Value.none, Value.ref 55, Value.ref 56, Value.ref 57, Value.int 264 0, Value.int 54 0, Value.str (Str.ofString "/claim/cut.py") 265]
noncomputable def c65 : Array Value := #[Value.str (Str.ofString "backtrack_accepts") 267, Value.str (Str.ofString "backtrack_accepts") 268, Value.str (Str.ofString "/claim/cut.py") 269, Value.int 95 0, Value.int 2 0, Value.int 0 0, Value.int 0 0, Value.int 3 0, Value.ref 60, Value.bool true, Value.int 181 0, Value.ref 61, Value.none, Value.ref 62, Value.ref 63, Value.ref 64, Value.int 281 0, Value.int 95 0, Value.str (Str.ofString "/claim/cut.py") 282]
noncomputable def c72 : Array Value := #[Value.str (Str.ofString "law_the_backtracker_means_it") 284, Value.str (Str.ofString "law_the_backtracker_means_it") 285, Value.str (Str.ofString "/claim/cut.py") 286, Value.int 118 0, Value.int 2 0, Value.int 0 0, Value.int 0 0, Value.int 3 0, Value.ref 67, Value.bool true, Value.int 181 0, Value.ref 68, Value.none, Value.ref 69, Value.ref 70, Value.ref 71, Value.int 289 0, Value.int 118 0, Value.str (Str.ofString "/claim/cut.py") 290]
noncomputable def c80 : Array Value := #[Value.str (Str.ofString "_law_NEEDS") 303, Value.str (Str.ofString "_law_NEEDS") 304, Value.str (Str.ofString "/claim/cut.py") 305, Value.int 122 0, Value.int 0 0, Value.int 0 0, Value.int 0 0, Value.int 3 0, Value.ref 75, Value.bool true, Value.int 181 0, Value.ref 76, Value.none, Value.ref 77, Value.ref 78, Value.ref 79, Value.int 306 0, Value.int 122 0, Value.str (Str.ofString "/claim/cut.py") 307]
noncomputable def c87 : Array Value := #[Value.str (Str.ofString "_law_cell") 309, Value.str (Str.ofString "_law_cell") 310, Value.str (Str.ofString "/claim/cut.py") 311, Value.int 124 0, Value.int 2 0, Value.int 0 0, Value.int 0 0, Value.int 3 0, Value.ref 82, Value.bool true, Value.int 181 0, Value.ref 83, Value.none, Value.ref 84, Value.ref 85, Value.ref 86, Value.int 314 0, Value.int 124 0, Value.str (Str.ofString "/claim/cut.py") 315]
noncomputable def c92 : Array Value := #[Value.str (Str.ofString "_law_cat") 317, Value.str (Str.ofString "_law_cat") 318, Value.str (Str.ofString "/claim/cut.py") 319, Value.int 128 0, Value.int 3 0, Value.int 0 0, Value.int 0 0, Value.int 3 0, Value.ref 89, Value.bool true, Value.int 181 0, Value.ref 90, Value.none, Value.none, Value.none, Value.ref 91, Value.int 320 0, Value.int 128 0, Value.str (Str.ofString "/claim/cut.py") 321]
noncomputable def c97 : Array Value := #[Value.str (Str.ofString "_law_many") 323, Value.str (Str.ofString "_law_many") 324, Value.str (Str.ofString "/claim/cut.py") 325, Value.int 130 0, Value.int 3 0, Value.int 0 0, Value.int 0 0, Value.int 3 0, Value.ref 94, Value.bool true, Value.int 181 0, Value.ref 95, Value.none, Value.none, Value.none, Value.ref 96, Value.int 326 0, Value.int 130 0, Value.str (Str.ofString "/claim/cut.py") 327]
noncomputable def c102 : Array Value := #[Value.str (Str.ofString "_law_value") 329, Value.str (Str.ofString "_law_value") 330, Value.str (Str.ofString "/claim/cut.py") 331, Value.int 136 0, Value.int 4 0, Value.int 0 0, Value.int 0 0, Value.int 3 0, Value.ref 99, Value.bool true, Value.int 181 0, Value.ref 100, Value.none, Value.none, Value.none, Value.ref 101, Value.int 332 0, Value.int 136 0, Value.str (Str.ofString "/claim/cut.py") 333]
noncomputable def c109 : Array Value := #[Value.str (Str.ofString "_law_put") 335, Value.str (Str.ofString "_law_put") 336, Value.str (Str.ofString "/claim/cut.py") 337, Value.int 152 0, Value.int 4 0, Value.int 0 0, Value.int 0 0, Value.int 3 0, Value.ref 104, Value.bool true, Value.int 181 0, Value.ref 105, Value.none, Value.ref 106, Value.ref 107, Value.ref 108, Value.int 343 0, Value.int 152 0, Value.str (Str.ofString "/claim/cut.py") 344]
noncomputable def c114 : Array Value := #[Value.str (Str.ofString "law") 346, Value.str (Str.ofString "law") 347, Value.str (Str.ofString "/claim/cut.py") 348, Value.int 155 0, Value.int 1 0, Value.int 0 0, Value.int 0 0, Value.int 3 0, Value.ref 111, Value.bool true, Value.int 181 0, Value.ref 112, Value.none, Value.none, Value.none, Value.ref 113, Value.int 349 0, Value.int 155 0, Value.str (Str.ofString "/claim/cut.py") 350]
noncomputable def hdA (P : Params) : PySem.W.Frag := [
  (3, { cls := Value.type "dict", data := Data.dict #[ent P "__name__" 165 (Value.str (Str.ofString "law_k12_0041") 292), ent P "__doc__" 166 (Value.none), ent P "__package__" 167 (Value.none), ent P "__loader__" 168 (Value.builtin "__main__.__loader__#opaque"), ent P "__spec__" 169 (Value.none), ent P "__annotations__" 170 (Value.ref 6), ent P "__builtins__" 171 (Value.ref 4), ent P "__file__" 173 (Value.str (Str.ofString "/claim/cut.py") 172), ent P "__cached__" 174 (Value.none), ent P "blank_table" 194 (Value.ref 19), ent P "table_of_sign" 206 (Value.ref 26), ent P "table_cat" 219 (Value.ref 33), ent P "table_alt" 225 (Value.ref 38), ent P "table_star" 236 (Value.ref 45), ent P "means" 249 (Value.ref 52), ent P "thompson" 266 (Value.ref 59), ent P "backtrack_accepts" 283 (Value.ref 66), ent P "law_the_backtracker_means_it" 291 (Value.ref 73), ent P "_law_KINDS" 302 (Value.ref 74), ent P "_law_NEEDS" 308 (Value.ref 81), ent P "_law_cell" 316 (Value.ref 88), ent P "_law_cat" 322 (Value.ref 93), ent P "_law_many" 328 (Value.ref 98), ent P "_law_value" 334 (Value.ref 103), ent P "_law_put" 345 (Value.ref 110), ent P "law" 351 (Value.ref 115)] 26 }),
  (18, { cls := .type "code", data := .fields c18 }),
  (19, fO 1 (Value.str (Str.ofString "quartet.core") 187) (Value.ref 18)),
  (25, { cls := .type "code", data := .fields c25 }),
  (26, fO 2 (Value.str (Str.ofString "quartet.core") 187) (Value.ref 25)),
  (32, { cls := .type "code", data := .fields c32 }),
  (33, fO 3 (Value.str (Str.ofString "quartet.core") 187) (Value.ref 32)),
  (37, { cls := .type "code", data := .fields c37 }),
  (38, fO 4 (Value.str (Str.ofString "quartet.core") 187) (Value.ref 37)),
  (44, { cls := .type "code", data := .fields c44 }),
  (45, fO 5 (Value.str (Str.ofString "quartet.core") 187) (Value.ref 44)),
  (51, { cls := .type "code", data := .fields c51 }),
  (52, fO 6 (Value.str (Str.ofString "quartet.core") 187) (Value.ref 51)),
  (58, { cls := .type "code", data := .fields c58 }),
  (59, fO 7 (Value.str (Str.ofString "quartet.core") 187) (Value.ref 58)),
  (65, { cls := .type "code", data := .fields c65 }),
  (66, fO 8 (Value.str (Str.ofString "quartet.core") 187) (Value.ref 65)),
  (72, { cls := .type "code", data := .fields c72 }),
  (73, fO 9 (Value.str (Str.ofString "quartet.core") 187) (Value.ref 72)),
  (80, { cls := .type "code", data := .fields c80 }),
  (81, fO 12 (Value.str (Str.ofString "law_k12_0041") 292) (Value.ref 80)),
  (87, { cls := .type "code", data := .fields c87 }),
  (88, fO 13 (Value.str (Str.ofString "law_k12_0041") 292) (Value.ref 87)),
  (92, { cls := .type "code", data := .fields c92 }),
  (93, fO 14 (Value.str (Str.ofString "law_k12_0041") 292) (Value.ref 92)),
  (97, { cls := .type "code", data := .fields c97 }),
  (98, fO 15 (Value.str (Str.ofString "law_k12_0041") 292) (Value.ref 97)),
  (102, { cls := .type "code", data := .fields c102 }),
  (103, fO 16 (Value.str (Str.ofString "law_k12_0041") 292) (Value.ref 102)),
  (109, { cls := .type "code", data := .fields c109 }),
  (110, fO 17 (Value.str (Str.ofString "law_k12_0041") 292) (Value.ref 109)),
  (114, { cls := .type "code", data := .fields c114 }),
  (115, fO 18 (Value.str (Str.ofString "law_k12_0041") 292) (Value.ref 114)),
  (74, { cls := Value.type "tuple", data := Data.seq #[Value.str (Str.ofString "chr") 294, Value.str (Str.ofString "any") 295, Value.str (Str.ofString "eps") 296, Value.str (Str.ofString "star") 297, Value.str (Str.ofString "plus") 298, Value.str (Str.ofString "opt") 299, Value.str (Str.ofString "cat") 300, Value.str (Str.ofString "alt") 301] })
  ]
noncomputable def hdB : PySem.W.Frag := [(16, { cls := .none, data := .fields #[] }), (21, { cls := .none, data := .fields #[] }), (28, { cls := .none, data := .fields #[] }), (35, { cls := .none, data := .fields #[] }), (40, { cls := .none, data := .fields #[] }), (47, { cls := .none, data := .fields #[] }), (54, { cls := .none, data := .fields #[] }), (61, { cls := .none, data := .fields #[] }), (68, { cls := .none, data := .fields #[] }), (76, { cls := .none, data := .fields #[] }), (83, { cls := .none, data := .fields #[] }), (90, { cls := .none, data := .fields #[] }), (95, { cls := .none, data := .fields #[] }), (100, { cls := .none, data := .fields #[] }), (105, { cls := .none, data := .fields #[] }), (112, { cls := .none, data := .fields #[] })]
noncomputable def hdK (P : Params) : PySem.W.Frag := hdA P ++ hdB
noncomputable def hdQ : Program := view PySem.Challenge.pw_k12_0041 [1,2,3,4,5,6,7,8,9,11,12,13,14,15,16,17,18]
noncomputable def hdH : Hook := kHook hdK [3, 18, 19, 25, 26, 32, 33, 37, 38, 44, 45, 51, 52, 58, 59, 65, 66, 72, 73, 80, 81, 87, 88, 92, 93, 97, 98, 102, 103, 109, 110, 114, 115, 74, 16, 21, 28, 35, 40, 47, 54, 61, 68, 76, 83, 90, 95, 100, 105, 112] (fun _ => rfl)
noncomputable def hdD : DefRec := ((defOf hdQ PySem.Challenge.rw_k12_0041.row.name).get (by kernel_rfl)).1
theorem hdL : LeftO PySem.Challenge.rw_k12_0041.row.prog hdQ [] (fun s => xlAt hdQ [] s && recOk (RowW.records PySem.Challenge.rw_k12_0041.row.toRowW) s) (Hook.obs hdH) (Hook.val hdH) 1182 := by
  intro w
  kernel_rfl
theorem topT (P : Params) : TopK PySem.Challenge.pw_k12_0041 (hdA P) (esOf (hdA P)) tv [] := by
  refine ⟨⟨_, _, rfl, rfl⟩, fun x v hx => ?_, by kernel_rfl, ?_⟩
  · have hm : (x, v) ∈ tv := mem_of_lookup hx
    cases List.mem_singleton.mp hm
    exact ⟨.ref 74, by kernel_rfl, fun h X => .tup (X 74 _ rfl) rfl rfl (.cons (.str _ _ (by decide)) (.cons (.str _ _ (by decide)) (.cons (.str _ _ (by decide)) (.cons (.str _ _ (by decide)) (.cons (.str _ _ (by decide)) (.cons (.str _ _ (by decide)) (.cons (.str _ _ (by decide)) (.cons (.str _ _ (by decide)) .nil)))))))) (by decide)⟩
  rw [fnL]
  refine AllP.all ?_
  refine And.intro ⟨19, fO 1 (Value.str (Str.ofString "quartet.core") 187) (Value.ref 18), fdO 1 (Value.str (Str.ofString "quartet.core") 187) (Value.ref 18), 18, { cls := .type "code", data := .fields c18 }, c18, 190, by kernel_rfl, by kernel_rfl, rfl, ⟨by kernel_rfl, by kernel_rfl, by kernel_rfl, by kernel_rfl, by kernel_rfl, by kernel_rfl, by kernel_rfl, by kernel_rfl, bind_1 (by kernel_rfl) (fun _ => by kernel_rfl), by kernel_rfl, by kernel_rfl⟩, by kernel_rfl, rfl, rfl, by kernel_rfl, by kernel_rfl⟩ ?_
  refine And.intro ⟨26, fO 2 (Value.str (Str.ofString "quartet.core") 187) (Value.ref 25), fdO 2 (Value.str (Str.ofString "quartet.core") 187) (Value.ref 25), 25, { cls := .type "code", data := .fields c25 }, c25, 196, by kernel_rfl, by kernel_rfl, rfl, ⟨by kernel_rfl, by kernel_rfl, by kernel_rfl, by kernel_rfl, by kernel_rfl, by kernel_rfl, by kernel_rfl, by kernel_rfl, bind_3 (by kernel_rfl) (fun _ _ _ => by kernel_rfl), by kernel_rfl, by kernel_rfl⟩, by kernel_rfl, rfl, rfl, by kernel_rfl, by kernel_rfl⟩ ?_
  refine And.intro ⟨33, fO 3 (Value.str (Str.ofString "quartet.core") 187) (Value.ref 32), fdO 3 (Value.str (Str.ofString "quartet.core") 187) (Value.ref 32), 32, { cls := .type "code", data := .fields c32 }, c32, 208, by kernel_rfl, by kernel_rfl, rfl, ⟨by kernel_rfl, by kernel_rfl, by kernel_rfl, by kernel_rfl, by kernel_rfl, by kernel_rfl, by kernel_rfl, by kernel_rfl, bind_2 (by kernel_rfl) (fun _ _ => by kernel_rfl), by kernel_rfl, by kernel_rfl⟩, by kernel_rfl, rfl, rfl, by kernel_rfl, by kernel_rfl⟩ ?_
  refine And.intro ⟨38, fO 4 (Value.str (Str.ofString "quartet.core") 187) (Value.ref 37), fdO 4 (Value.str (Str.ofString "quartet.core") 187) (Value.ref 37), 37, { cls := .type "code", data := .fields c37 }, c37, 221, by kernel_rfl, by kernel_rfl, rfl, ⟨by kernel_rfl, by kernel_rfl, by kernel_rfl, by kernel_rfl, by kernel_rfl, by kernel_rfl, by kernel_rfl, by kernel_rfl, bind_2 (by kernel_rfl) (fun _ _ => by kernel_rfl), by kernel_rfl, by kernel_rfl⟩, by kernel_rfl, rfl, rfl, by kernel_rfl, by kernel_rfl⟩ ?_
  refine And.intro ⟨45, fO 5 (Value.str (Str.ofString "quartet.core") 187) (Value.ref 44), fdO 5 (Value.str (Str.ofString "quartet.core") 187) (Value.ref 44), 44, { cls := .type "code", data := .fields c44 }, c44, 227, by kernel_rfl, by kernel_rfl, rfl, ⟨by kernel_rfl, by kernel_rfl, by kernel_rfl, by kernel_rfl, by kernel_rfl, by kernel_rfl, by kernel_rfl, by kernel_rfl, bind_1 (by kernel_rfl) (fun _ => by kernel_rfl), by kernel_rfl, by kernel_rfl⟩, by kernel_rfl, rfl, rfl, by kernel_rfl, by kernel_rfl⟩ ?_
  refine And.intro ⟨52, fO 6 (Value.str (Str.ofString "quartet.core") 187) (Value.ref 51), fdO 6 (Value.str (Str.ofString "quartet.core") 187) (Value.ref 51), 51, { cls := .type "code", data := .fields c51 }, c51, 238, by kernel_rfl, by kernel_rfl, rfl, ⟨by kernel_rfl, by kernel_rfl, by kernel_rfl, by kernel_rfl, by kernel_rfl, by kernel_rfl, by kernel_rfl, by kernel_rfl, bind_2 (by kernel_rfl) (fun _ _ => by kernel_rfl), by kernel_rfl, by kernel_rfl⟩, by kernel_rfl, rfl, rfl, by kernel_rfl, by kernel_rfl⟩ ?_
  refine And.intro ⟨59, fO 7 (Value.str (Str.ofString "quartet.core") 187) (Value.ref 58), fdO 7 (Value.str (Str.ofString "quartet.core") 187) (Value.ref 58), 58, { cls := .type "code", data := .fields c58 }, c58, 251, by kernel_rfl, by kernel_rfl, rfl, ⟨by kernel_rfl, by kernel_rfl, by kernel_rfl, by kernel_rfl, by kernel_rfl, by kernel_rfl, by kernel_rfl, by kernel_rfl, bind_1 (by kernel_rfl) (fun _ => by kernel_rfl), by kernel_rfl, by kernel_rfl⟩, by kernel_rfl, rfl, rfl, by kernel_rfl, by kernel_rfl⟩ ?_
  refine And.intro ⟨66, fO 8 (Value.str (Str.ofString "quartet.core") 187) (Value.ref 65), fdO 8 (Value.str (Str.ofString "quartet.core") 187) (Value.ref 65), 65, { cls := .type "code", data := .fields c65 }, c65, 268, by kernel_rfl, by kernel_rfl, rfl, ⟨by kernel_rfl, by kernel_rfl, by kernel_rfl, by kernel_rfl, by kernel_rfl, by kernel_rfl, by kernel_rfl, by kernel_rfl, bind_2 (by kernel_rfl) (fun _ _ => by kernel_rfl), by kernel_rfl, by kernel_rfl⟩, by kernel_rfl, rfl, rfl, by kernel_rfl, by kernel_rfl⟩ ?_
  refine And.intro ⟨73, fO 9 (Value.str (Str.ofString "quartet.core") 187) (Value.ref 72), fdO 9 (Value.str (Str.ofString "quartet.core") 187) (Value.ref 72), 72, { cls := .type "code", data := .fields c72 }, c72, 285, by kernel_rfl, by kernel_rfl, rfl, ⟨by kernel_rfl, by kernel_rfl, by kernel_rfl, by kernel_rfl, by kernel_rfl, by kernel_rfl, by kernel_rfl, by kernel_rfl, bind_2 (by kernel_rfl) (fun _ _ => by kernel_rfl), by kernel_rfl, by kernel_rfl⟩, by kernel_rfl, rfl, rfl, by kernel_rfl, by kernel_rfl⟩ ?_
  refine And.intro ⟨81, fO 12 (Value.str (Str.ofString "law_k12_0041") 292) (Value.ref 80), fdO 12 (Value.str (Str.ofString "law_k12_0041") 292) (Value.ref 80), 80, { cls := .type "code", data := .fields c80 }, c80, 304, by kernel_rfl, by kernel_rfl, rfl, ⟨by kernel_rfl, by kernel_rfl, by kernel_rfl, by kernel_rfl, by kernel_rfl, by kernel_rfl, by kernel_rfl, by kernel_rfl, bind_0 (by kernel_rfl) (by kernel_rfl), by kernel_rfl, by kernel_rfl⟩, by kernel_rfl, rfl, rfl, by kernel_rfl, by kernel_rfl⟩ ?_
  refine And.intro ⟨88, fO 13 (Value.str (Str.ofString "law_k12_0041") 292) (Value.ref 87), fdO 13 (Value.str (Str.ofString "law_k12_0041") 292) (Value.ref 87), 87, { cls := .type "code", data := .fields c87 }, c87, 310, by kernel_rfl, by kernel_rfl, rfl, ⟨by kernel_rfl, by kernel_rfl, by kernel_rfl, by kernel_rfl, by kernel_rfl, by kernel_rfl, by kernel_rfl, by kernel_rfl, bind_2 (by kernel_rfl) (fun _ _ => by kernel_rfl), by kernel_rfl, by kernel_rfl⟩, by kernel_rfl, rfl, rfl, by kernel_rfl, by kernel_rfl⟩ ?_
  refine And.intro ⟨93, fO 14 (Value.str (Str.ofString "law_k12_0041") 292) (Value.ref 92), fdO 14 (Value.str (Str.ofString "law_k12_0041") 292) (Value.ref 92), 92, { cls := .type "code", data := .fields c92 }, c92, 318, by kernel_rfl, by kernel_rfl, rfl, ⟨by kernel_rfl, by kernel_rfl, by kernel_rfl, by kernel_rfl, by kernel_rfl, by kernel_rfl, by kernel_rfl, by kernel_rfl, bind_3 (by kernel_rfl) (fun _ _ _ => by kernel_rfl), by kernel_rfl, by kernel_rfl⟩, by kernel_rfl, rfl, rfl, by kernel_rfl, by kernel_rfl⟩ ?_
  refine And.intro ⟨98, fO 15 (Value.str (Str.ofString "law_k12_0041") 292) (Value.ref 97), fdO 15 (Value.str (Str.ofString "law_k12_0041") 292) (Value.ref 97), 97, { cls := .type "code", data := .fields c97 }, c97, 324, by kernel_rfl, by kernel_rfl, rfl, ⟨by kernel_rfl, by kernel_rfl, by kernel_rfl, by kernel_rfl, by kernel_rfl, by kernel_rfl, by kernel_rfl, by kernel_rfl, bind_3 (by kernel_rfl) (fun _ _ _ => by kernel_rfl), by kernel_rfl, by kernel_rfl⟩, by kernel_rfl, rfl, rfl, by kernel_rfl, by kernel_rfl⟩ ?_
  refine And.intro ⟨103, fO 16 (Value.str (Str.ofString "law_k12_0041") 292) (Value.ref 102), fdO 16 (Value.str (Str.ofString "law_k12_0041") 292) (Value.ref 102), 102, { cls := .type "code", data := .fields c102 }, c102, 330, by kernel_rfl, by kernel_rfl, rfl, ⟨by kernel_rfl, by kernel_rfl, by kernel_rfl, by kernel_rfl, by kernel_rfl, by kernel_rfl, by kernel_rfl, by kernel_rfl, bind_4 (by kernel_rfl) (fun _ _ _ _ => by kernel_rfl), by kernel_rfl, by kernel_rfl⟩, by kernel_rfl, rfl, rfl, by kernel_rfl, by kernel_rfl⟩ ?_
  refine And.intro ⟨110, fO 17 (Value.str (Str.ofString "law_k12_0041") 292) (Value.ref 109), fdO 17 (Value.str (Str.ofString "law_k12_0041") 292) (Value.ref 109), 109, { cls := .type "code", data := .fields c109 }, c109, 336, by kernel_rfl, by kernel_rfl, rfl, ⟨by kernel_rfl, by kernel_rfl, by kernel_rfl, by kernel_rfl, by kernel_rfl, by kernel_rfl, by kernel_rfl, by kernel_rfl, bind_4 (by kernel_rfl) (fun _ _ _ _ => by kernel_rfl), by kernel_rfl, by kernel_rfl⟩, by kernel_rfl, rfl, rfl, by kernel_rfl, by kernel_rfl⟩ ?_
  refine And.intro ⟨115, fO 18 (Value.str (Str.ofString "law_k12_0041") 292) (Value.ref 114), fdO 18 (Value.str (Str.ofString "law_k12_0041") 292) (Value.ref 114), 114, { cls := .type "code", data := .fields c114 }, c114, 347, by kernel_rfl, by kernel_rfl, rfl, ⟨by kernel_rfl, by kernel_rfl, by kernel_rfl, by kernel_rfl, by kernel_rfl, by kernel_rfl, by kernel_rfl, by kernel_rfl, bind_1 (by kernel_rfl) (fun _ => by kernel_rfl), by kernel_rfl, by kernel_rfl⟩, by kernel_rfl, rfl, rfl, by kernel_rfl, by kernel_rfl⟩ ?_
  exact True.intro
theorem runT (ns : List Int) : ∃ H', (globs PySem.Challenge.pw_k12_0041 (fun x => tv.lookup x) true 8).fn "law" [.ref 0] [ns.map V.int] = some (.bool true, H') := by
  rw [show ("law" : Str) = f_law by decide +kernel]
  exact run41 ns
theorem cd_of {h : Heap} {K : PySem.W.Frag} {c P : Addr} {cs : Array Value} {file : Str} {tf tg tt : Nat} {flags text : Int} {inF : Bool} (X : K.In h) (h1 : K.lookup c = some { cls := .type "code", data := .fields cs }) (h2 : K.lookup P = some { cls := .none, data := .fields #[] })
    (e : cs.getD 11 .none = .ref P ∧ cs.getD 18 .none = .str file tf ∧ cs.getD 7 .none = .int flags tg ∧ cs.getD 9 .none = .bool inF ∧ cs.getD 10 .none = .int text tt) (e2 : cs[11]? = some (.ref P)) (hn : c ≠ P) : IsCd h (c, P) #[] :=
  ⟨⟨_, _, _, _, _, _, _, _, _, _, X _ _ h1, rfl, e.1, e.2.1, e.2.2.1, e.2.2.2.1, e.2.2.2.2, X _ _ h2, rfl, trivial, hn⟩, ⟨_, _, X _ _ h1, rfl, rfl, e2⟩, X _ _ h2⟩
theorem cdT {P : Params} {h : Heap} (X : (hdK P).In h) : ∀ p ∈ CPs, IsCd h p #[] := by
  unfold CPs
  refine AllP.all ?_
  refine And.intro (cd_of (cs := c18) X (by kernel_rfl) (by kernel_rfl) ⟨rfl, rfl, rfl, rfl, rfl⟩ rfl (by decide)) ?_
  refine And.intro (cd_of (cs := c25) X (by kernel_rfl) (by kernel_rfl) ⟨rfl, rfl, rfl, rfl, rfl⟩ rfl (by decide)) ?_
  refine And.intro (cd_of (cs := c32) X (by kernel_rfl) (by kernel_rfl) ⟨rfl, rfl, rfl, rfl, rfl⟩ rfl (by decide)) ?_
  refine And.intro (cd_of (cs := c37) X (by kernel_rfl) (by kernel_rfl) ⟨rfl, rfl, rfl, rfl, rfl⟩ rfl (by decide)) ?_
  refine And.intro (cd_of (cs := c44) X (by kernel_rfl) (by kernel_rfl) ⟨rfl, rfl, rfl, rfl, rfl⟩ rfl (by decide)) ?_
  refine And.intro (cd_of (cs := c51) X (by kernel_rfl) (by kernel_rfl) ⟨rfl, rfl, rfl, rfl, rfl⟩ rfl (by decide)) ?_
  refine And.intro (cd_of (cs := c58) X (by kernel_rfl) (by kernel_rfl) ⟨rfl, rfl, rfl, rfl, rfl⟩ rfl (by decide)) ?_
  refine And.intro (cd_of (cs := c65) X (by kernel_rfl) (by kernel_rfl) ⟨rfl, rfl, rfl, rfl, rfl⟩ rfl (by decide)) ?_
  refine And.intro (cd_of (cs := c72) X (by kernel_rfl) (by kernel_rfl) ⟨rfl, rfl, rfl, rfl, rfl⟩ rfl (by decide)) ?_
  refine And.intro (cd_of (cs := c80) X (by kernel_rfl) (by kernel_rfl) ⟨rfl, rfl, rfl, rfl, rfl⟩ rfl (by decide)) ?_
  refine And.intro (cd_of (cs := c87) X (by kernel_rfl) (by kernel_rfl) ⟨rfl, rfl, rfl, rfl, rfl⟩ rfl (by decide)) ?_
  refine And.intro (cd_of (cs := c92) X (by kernel_rfl) (by kernel_rfl) ⟨rfl, rfl, rfl, rfl, rfl⟩ rfl (by decide)) ?_
  refine And.intro (cd_of (cs := c97) X (by kernel_rfl) (by kernel_rfl) ⟨rfl, rfl, rfl, rfl, rfl⟩ rfl (by decide)) ?_
  refine And.intro (cd_of (cs := c102) X (by kernel_rfl) (by kernel_rfl) ⟨rfl, rfl, rfl, rfl, rfl⟩ rfl (by decide)) ?_
  refine And.intro (cd_of (cs := c109) X (by kernel_rfl) (by kernel_rfl) ⟨rfl, rfl, rfl, rfl, rfl⟩ rfl (by decide)) ?_
  refine And.intro (cd_of (cs := c114) X (by kernel_rfl) (by kernel_rfl) ⟨rfl, rfl, rfl, rfl, rfl⟩ rfl (by decide)) ?_
  exact True.intro
theorem inA {P : Params} {h : Heap} (X : (hdK P).In h) : (hdA P).In h := fun a o e => X a o (by unfold hdK; rw [List.lookup_append, e]; rfl)
theorem apartT : ∀ a ∈ ([3, 18, 19, 25, 26, 32, 33, 37, 38, 44, 45, 51, 52, 58, 59, 65, 66, 72, 73, 80, 81, 87, 88, 92, 93, 97, 98, 102, 103, 109, 110, 114, 115, 74] : List Addr), ∀ p ∈ CPs, a ≠ p.2 := by unfold CPs; decide +kernel
theorem memK {a : Addr} {o : Obj} : ∀ {K : PySem.W.Frag}, K.lookup a = some o → (a, o) ∈ K
  | (b, p) :: K, h => by
    rw [List.lookup_cons] at h
    by_cases e : a = b
    · subst e; rw [beq_self_eq_true] at h; cases h; exact List.mem_cons_self
    · rw [beq_eq_false_iff_ne.mpr e] at h; exact List.mem_cons_of_mem _ (memK h)
theorem notT {P : Params} : ∀ a o, (hdA P).lookup a = some o → notP a := fun a o e => apartT a (by
  have : a ∈ (hdA P).map (·.1) := List.mem_map.mpr ⟨(a, o), memK e, rfl⟩
  exact this)
theorem said : PySem.Challenge.rw_k12_0041.wellSaid = true := by kernel_rfl
end Mine
theorem PySem.Challenge.cw_k12_0041_holds : PySem.Challenge.rw_k12_0041.Holds := by
  refine holds_law Mine.said fun said => ?_
  refine holds_open (q := Mine.hdQ) (loose := []) (Xt := fun s => xlAt Mine.hdQ [] s && recOk (RowW.records PySem.Challenge.rw_k12_0041.row.toRowW) s) (XP := XL Mine.hdQ []) (Yf := Hook.obs Mine.hdH) (Ya := Hook.val Mine.hdH) (YP := Hook.says Mine.hdH) (d := Mine.hdD) (kwd := []) (N := 1182)
    Mine.hdL (Hook.of Mine.hdH) (Hook.keeps Mine.hdH) (fun s e => xl_of s (Bool.and_eq_true_iff.mp e).1) XL.keeps (by kernel_rfl) (by kernel_rfl) (by kernel_rfl) (fun s e => recFacts_of (Bool.and_eq_true_iff.mp e).2) (by kernel_rfl) said (by kernel_rfl) ⟨rfl, rfl, rfl, rfl, rfl, by decide +kernel⟩ ?hw ?hc
  case hw => w_witness2
  case hc =>
    intro w s₀ s₁ mg mb G Y fa o pm cd doc dV kV ho hd hcd hD hmg hg args vals as hpre hlay hrd hwl hlo
    have KX := kIn_of Y
    refine Ground.open G ?_
    intro T B D TE TW
    clear hd hcd hD
    wrow_args hpre hlay hrd hwl hlo
    rename List Int => ns
    rename IntsAre _ _ => hI
    rename Well _ _ _ _ => hw
    rename Heap.IsList _ _ _ => hL
    rename ¬ _ => hlen
    obtain ⟨H', hrun⟩ := Mine.runT ns
    have hbm : ∃ mg bm ob, BMod s₁.heap mainGlobals mg bm ob := let ⟨bm, ob, M⟩ := bmod_of_top T; ⟨_, bm, ob, M⟩
    exact Mine.law_glue (Mine.topT w.params) (Mine.inA KX) Mine.notT (Mine.cdT KX) hbm T.g T.b T.builtins T.nolimit hmg rfl (AllBare.of_eq hg) (Mine.plain_of hw hL) hI (by omega) (by decide) hrun fun h' tk gs hk hgs => Mine.good_end (fun _ => rfl) (by first | kernel_rfl | exact postW_of rfl (w_eq_bool (w_res rfl) w_lit) rfl) hk hgs
#print axioms PySem.Challenge.cw_k12_0041_holds
