import PyProof.Rows.All
import PyProof.P3Statements
import PyProof.StrBlock
import PyProof.StrBlock2
import PyProof.StrBlockL
import PyProof.SliceMore
import PyProof.Fits
import PyProof.StrCalls6
import PyProof.Cells
import PyProof.Comp
import PyProof.PlainList
import PyProof.IsRules
import PyProof.TupleIter
import PyProof.RangeIter
import PyProof.EnumMake
import PyProof.DelItemList
import PyProof.EqLayable
import PyProof.P3In
import PyProof.Rows.IntRules
import PyProof.Rows.RuleB_mul
import PyProof.Rows.RuleB_mod
import PyProof.Rows.RuleB_floordiv
import PyProof.Rows.RuleB_pow
import PyProof.Rows.RuleB_rshift
import PyProof.Rows.RuleB_or
import PyProof.Rows.RuleC_int
import PyProof.Rows.RuleC_bool
import PyProof.Rows.RuleIs
import PyProof.Rows.StrRules
import PyProof.Rows.Catch
import PyProof.Rows.Nodes
import PyProof.Rows.RuleU_int
import PyProof.Rows.Tup
import PyProof.ListOps
import PyProof.NoPylong
import PyProof.Rows.StrTemp
import PyProof.Rows.StrOrd
import PyProof.CallFns
import PyProof.IsiPairs
import PyProof.IsiNone
import PyProof.IsiHeapPairs
import PyProof.Methods
import PyProof.ListIndexNeg
import PyProof.SliceStr2
import KE.KRevSl
import PyProof.StrCalls
import PyProof.StrCalls3
import PyProof.StrCalls2
import PyProof.ConsumeWalk
import PyProof.Rows.SortWalk
import PyProof.Rows.SeqMore
import PyProof.ToksMono
import PyProof.CallRoads
import PyProof.StrCalls5
import PyProof.Rows.Exc
import PyProof.WalksMore
import PyProof.StrWalks
import PyProof.RangeFor
import OpenK.Peek
import PyProof.StrLawsIn
import PyProof.StrLawsLast
import PyProof.Rows.StrCountLaw
import PyProof.P3Eq
import PyProof.TableCode
import PyProof.StrLawsOcc
import Wide.All
import OpenK.AllK
import Wide.FinOn
import PySem.Challenge.RW_k12_0017

set_option Elab.async false
set_option linter.all false

section
namespace Mine
open PySem

/-- values of the small reading: lists are objects (ref), tuples (never changed) are values -/
inductive V where
  | none
  | bool (b : Bool)
  | int (i : Int)
  | str (s : Str)
  | type (n : String)
  | tup (vs : List V)
  | ref (a : Nat)

abbrev Hp := List (List V)
abbrev Rho := Str → Option V
abbrev Kap := Str → Option NameKind

inductive Fl where
  | next | brk | cont
  | ret (v : V)

mutual
noncomputable def V.beq : V → V → Bool
  | .none, .none => true
  | .bool a, .bool b => a == b
  | .int a, .int b => a == b
  | .str a, .str b => a == b
  | .type a, .type b => a == b
  | .tup a, .tup b => V.beqs a b
  | .ref a, .ref b => a == b
  | _, _ => false
noncomputable def V.beqs : List V → List V → Bool
  | [], [] => true
  | a :: as, b :: bs => V.beq a b && V.beqs as bs
  | _, _ => false
end

structure Glob where
  val : Str → Option V
  isFn : Str → Bool
  fn : Str → List V → Hp → Option (V × Hp)
  /-- functions without arguments that return a written dict, by its pairs -/
  dct : Str → Option (List (Str × V))
  /-- how many tokens are surely there -/
  z : Nat

/-! reading a value as plain data -/
noncomputable def rdAll (f : V → Option PyData) : List V → Option (List PyData)
  | [] => some []
  | v :: vs => (f v).bind fun d => (rdAll f vs).map (d :: ·)
noncomputable def rd : Nat → Hp → V → Option PyData
  | _, _, .none => some .none
  | _, _, .bool b => some (.bool b)
  | _, _, .int i => some (.int i)
  | _, _, .str s => if s.cps.all (· < 0x110000) then some (.str s) else none
  | n + 1, h, .tup vs => (rdAll (rd n h) vs).map .tuple
  | n + 1, h, .ref a => (h[a]?).bind fun vs => (rdAll (rd n h) vs).map .list
  | _, _, _ => none

noncomputable def cval : Const → Option V
  | .none => some .none
  | .bool b => some (.bool b)
  | .int i => some (.int i)
  | .str s => if s.length ≤ sizeLine then some (.str s) else none
  | _ => none

noncomputable def builtinType (x : Str) : Option V :=
  if x = "list" then some (.type "list") else if x = "tuple" then some (.type "tuple") else if x = "str" then some (.type "str") else if x = "bool" then some (.type "bool") else none

noncomputable def nameV (g : Glob) (κ : Kap) (ρ : Rho) (x : Str) : Option V :=
  if x = "__debug__" ∨ x = "__classdict__" then none else
  match κ x with
  | some .local | some .cell | some .free => ρ x
  | some .globalImplicit => match g.val x with
    | some v => some v
    | none => if g.isFn x then none else builtinType x
  | _ => none

noncomputable def truthV : V → Option Bool
  | .bool b => some b
  | _ => none

noncomputable def binop (op : Operator) (x y : V) (h : Hp) : Option (V × Hp) :=
  match op, x, y with
  | .Add, .int a, .int b => some (.int (a + b), h)
  | .Sub, .int a, .int b => some (.int (a - b), h)
  | .Mod, .int a, .int b => if b = 0 then none else some (.int (a.fmod b), h)
  | .FloorDiv, .int a, .int b => if b ≠ 0 ∧ b.natAbs < 1073741824 then some (.int (a.fdiv b), h) else none
  | .Add, .ref a, .ref b => (h[a]?).bind fun xs => (h[b]?).bind fun ys => if xs.length + ys.length ≤ sizeLine then some (.ref h.length, h ++ [xs ++ ys]) else none
  | _, _, _ => none

noncomputable def unop (op : UnaryOp) (x : V) : Option V :=
  match op, x with
  | .USub, .int a => some (.int (-a))
  | .Not, .bool b => some (.bool (!b))
  | _, _ => none

noncomputable def eqV (h : Hp) (x y : V) : Option Bool :=
  match x, y with
  | .int a, .int b => some (a == b)
  | .str a, .str b => some (a == b)
  | .bool a, .bool b => some (a == b)
  | _, _ => (rd 8 h x).bind fun d => (rd 8 h y).map fun e => PyData.eqv d e

noncomputable def inV (h : Hp) (x c : V) : Option Bool :=
  match c with
  | .str s => match x with | .str y => some (Txt.contains s y) | _ => none
  | .tup vs => (rd 8 h x).bind fun d => (rdAll (rd 8 h) vs).map fun ds => ds.any fun y => PyData.eqv y d
  | .ref a => (h[a]?).bind fun vs => (rd 8 h x).bind fun d => (rdAll (rd 8 h) vs).map fun ds => ds.any fun y => PyData.eqv y d
  | _ => none

noncomputable def cmpop (op : CmpOp) (x y : V) (h : Hp) : Option Bool :=
  match op with
  | .Eq => eqV h x y
  | .NotEq => (eqV h x y).map (!·)
  | .Lt => match x, y with | .int a, .int b => some (decide (a < b)) | _, _ => none
  | .LtE => match x, y with | .int a, .int b => some (decide (a ≤ b)) | _, _ => none
  | .Gt => match x, y with | .int a, .int b => some (decide (b < a)) | _, _ => none
  | .GtE => match x, y with | .int a, .int b => some (decide (b ≤ a)) | _, _ => none
  | .Is => match x, y with | .bool a, .bool b => some (a == b) | .type a, .type b => some (a == b) | _, _ => none
  | .IsNot => match x, y with | .bool a, .bool b => some (a != b) | .type a, .type b => some (a != b) | _, _ => none
  | .In => inV h x y
  | .NotIn => (inV h x y).map (!·)

noncomputable def typeV (_h : Hp) : V → Option String
  | .bool _ => some "bool"
  | .int _ => some "int"
  | .str _ => some "str"
  | .tup _ => some "tuple"
  | .ref _ => some "list"
  | .none => some "NoneType"
  | _ => none

noncomputable def strsOf : List V → Option (List Str)
  | [] => some []
  | .str i :: r => (strsOf r).map (i :: ·)
  | _ => none

/-- the built-in functions -/
noncomputable def callB (f : Str) (as : List V) (h : Hp) : Option (V × Hp) :=
  if f = "len" then
    match as with
    | [.str s] => some (.int s.length, h)
    | [.tup vs] => some (.int vs.length, h)
    | [.ref a] => (h[a]?).map fun xs => (.int xs.length, h)
    | _ => none
  else if f = "ord" then
    none
  else if f = "chr" then
    match as with
    | [.int i] => if 0 ≤ i ∧ i < 0x110000 then some (.str ⟨#[i.toNat]⟩, h) else none
    | _ => none
  else if f = "isinstance" then
    match as with
    | [v, .type t] => if t = "tuple" ∨ t = "str" ∨ t = "bool" then (typeV h v).map fun u => (.bool (u == t), h) else none
    | _ => none
  else if f = "type" then
    none
  else if f = "sorted" then
    none
  else if f = "any" then
    none
  else none

/-- methods -/
noncomputable def callM (b : Nat) (m : Str) (o : V) (as : List V) (h : Hp) : Option (V × Hp) :=
  match o with
  | .ref a =>
    if m = "append" then
      none
    else if m = "pop" then
      none
    else none
  | .str s =>
    if m = "join" then
      match as with
      | [.ref a] => (h[a]?).bind fun xs => (strsOf xs).bind fun ss => if JoinOk s ss then some (.str (Txt.join s ss), h) else none
      | _ => none
    else if m = "rfind" then
      none
    else if m = "count" then
      none
    else none
  | _ => none

noncomputable def idx (o i : V) (h : Hp) : Option V :=
  match o, i with
  | .str s, .int k => ((seqIndex? k s.length).bind (s.cps[·]?)).map fun c => .str ⟨#[c]⟩
  | .tup vs, .int k => (seqIndex? k vs.length).bind (vs[·]?)
  | .ref a, .int k => (h[a]?).bind fun vs => (seqIndex? k vs.length).bind (vs[·]?)
  | _, _ => none

noncomputable def partV : V → Option (Option Int)
  | .none => some none
  | .int i => some (some i)
  | _ => none

noncomputable def cutL {α : Type} (xs : List α) (lo hi : Option Int) : List α :=
  (xs.drop (lo.elim 0 (clipAt xs.length))).take (hi.elim xs.length (clipAt xs.length) - lo.elim 0 (clipAt xs.length))

noncomputable def slice (o l u st : V) (h : Hp) : Option (V × Hp) :=
  (partV l).bind fun lo => (partV u).bind fun hi =>
  match st with
  | .none => match o with
    | .ref a => (h[a]?).bind fun xs => some (.ref h.length, h ++ [cutL xs lo hi])
    | _ => none
  | _ => none

abbrev Rec := Expr → Kap → Rho → Hp → Option (V × Hp)
abbrev RecT := Expr → Kap → Rho → Hp → Option (Bool × Hp)

noncomputable def notStar : Expr → Bool
  | .Starred .. => false
  | _ => true
noncomputable def notSet : Expr → Bool
  | .Set .. => false
  | _ => true

noncomputable def evs (rec : Rec) (κ : Kap) (ρ : Rho) : List Expr → Hp → Option (List V × Hp)
  | [], h => some ([], h)
  | e :: r, h => if notStar e then (rec e κ ρ h).bind fun p => (evs rec κ ρ r p.2).map fun q => (p.1 :: q.1, q.2) else none

noncomputable def evBool (rec : Rec) (op : BoolOp) (κ : Kap) (ρ : Rho) : List Expr → Hp → Option (V × Hp)
  | [], _ => none
  | [e], h => rec e κ ρ h
  | e :: r, h => (rec e κ ρ h).bind fun p => (truthV p.1).bind fun t =>
    match op, t with
    | .And, false | .Or, true => some p
    | _, _ => evBool rec op κ ρ r p.2

noncomputable def cmpChain (rec : Rec) (κ : Kap) (ρ : Rho) : V → List CmpOp → List Expr → Hp → Option (Bool × Hp)
  | x, [op], [e], h => if notSet e then (rec e κ ρ h).bind fun p => (cmpop op x p.1 p.2).map (·, p.2) else none
  | _, _, _, _ => none

noncomputable def evOpt (rec : Rec) (κ : Kap) (ρ : Rho) : Option Expr → Hp → Option (V × Hp)
  | none, h => some (.none, h)
  | some e, h => rec e κ ρ h

/-- what a for goes over: its items, and the look that the list is as it was -/
noncomputable def itemsOf (v : V) (h : Hp) : Option (List V × Option Nat) :=
  match v with
  | .str s => some (s.cps.toList.map fun c => .str ⟨#[c]⟩, none)
  | .tup vs => some (vs, none)
  | .ref a => (h[a]?).map fun xs => (xs, some a)
  | _ => none

noncomputable def rangeV (lo hi : Int) : List V := (List.range (hi - lo).toNat).map fun i : Nat => .int (lo + i)

noncomputable def isGlobalB (g : Glob) (κ : Kap) (f : Str) : Bool := κ f == some .globalImplicit && (g.val f).isNone && !g.isFn f

noncomputable def rangeArgs : List V → Option (Int × Int)
  | [.int n] => if n.natAbs ≤ 2 ^ 40 then some (0, n) else none
  | [.int m, .int n] => if m.natAbs ≤ 2 ^ 40 ∧ n.natAbs ≤ 2 ^ 40 then some (m, n) else none
  | _ => none

noncomputable def rangeCall : Expr → Option (Str × List Expr)
  | .Call (.Name f _) args [] _ => if f = "range" then some (f, args) else none
  | _ => none

noncomputable def evIter (g : Glob) (rec : Rec) (κ : Kap) (ρ : Rho) (e : Expr) (h : Hp) : Option ((List V × Option Nat) × Hp) :=
  if notSet e then
    match rangeCall e with
    | some (f, args) => if isGlobalB g κ f then (evs rec κ ρ args h).bind fun q => (rangeArgs q.1).map fun r => ((rangeV r.1 r.2, none), q.2) else none
    | none => (rec e κ ρ h).bind fun p => (itemsOf p.1 p.2).map (·, p.2)
  else none

noncomputable def chk (c : Option Nat) (items : List V) (h : Hp) : Bool :=
  match c with
  | none => true
  | some a => match h[a]? with | some xs => V.beqs xs items | none => false

noncomputable def loopL (c : Option Nat) (all : List V) (f : V → Hp → Option Hp) : List V → Hp → Option Hp
  | [], h => if chk c all h then some h else none
  | x :: xs, h => if chk c all h then (f x h).bind (loopL c all f xs) else none

noncomputable def loopS (c : Option Nat) (all : List V) (f : V → Rho → Hp → Option (Fl × Rho × Hp)) : List V → Rho → Hp → Option (Fl × Rho × Hp)
  | [], ρ, h => if chk c all h then some (.next, ρ, h) else none
  | x :: xs, ρ, h => if chk c all h then (f x ρ h).bind fun q => match q.1 with
      | .next | .cont => loopS c all f xs q.2.1 q.2.2
      | .brk => some (.next, q.2)
      | .ret v => some (.ret v, q.2) else none

noncomputable def upd (ρ : Rho) (x : Str) (v : V) : Rho := fun y => if y = x then some v else ρ y

/-- a for's target: a name, or a tuple of names -/
noncomputable def bindNames (ω : Str → Bool) : List Expr → List V → Rho → Option Rho
  | [], [], ρ => some ρ
  | .Name x _ :: r, v :: vs, ρ => if ω x then bindNames ω r vs (upd ρ x v) else none
  | _, _, _ => none
noncomputable def bindT (ω : Str → Bool) (t : Expr) (v : V) (ρ : Rho) : Option Rho :=
  match t with
  | .Name x _ => if ω x then some (upd ρ x v) else none
  | .Tuple ts _ _ => match v with | .tup vs => bindNames ω ts vs ρ | _ => none
  | _ => none

noncomputable def tsts (recT : RecT) (κ : Kap) (ρ : Rho) : List Expr → Hp → Option (Bool × Hp)
  | [], h => some (true, h)
  | e :: r, h => (recT e κ ρ h).bind fun p => if p.1 then tsts recT κ ρ r p.2 else some (false, p.2)

noncomputable def ownName (scope : Scope) (x : Str) : Bool := scope.names.lookup x == some .local || scope.names.lookup x == some .cell

/-- the kinds inside a comprehension -/
noncomputable def compKap (scope : Scope) (κ : Kap) : Kap := fun x => match scope.names.lookup x with
  | some .free => if κ x == some .cell then some .cell else some .free
  | k => k

/-- free names of the scope are cells around -/
noncomputable def freeOk (scope : Scope) (κ : Kap) : Bool := scope.kind == .function && scope.names.all fun p => scope.names.lookup p.1 == some p.2 && (p.2 != .free || (κ p.1 == some .cell || κ p.1 == some .free))

noncomputable def appendTo (acc : Nat) (v : V) (h : Hp) : Option Hp :=
  (h[acc]?).bind fun xs => if xs.length ≤ 1000000 then some (h.set acc (xs ++ [v])) else none

/-- a comprehension's target is not bound around it -/
noncomputable def freshT (t : Expr) (ρ : Rho) : Bool :=
  match t with
  | .Name x _ => (ρ x).isNone
  | _ => false

noncomputable def cgo (g : Glob) (rec : Rec) (recT : RecT) (ω : Str → Bool) (elt : Expr) (acc : Nat) (κ : Kap) : List Comprehension → Rho → Hp → Option Hp
  | [], ρ, h => (rec elt κ ρ h).bind fun p => appendTo acc p.1 p.2
  | g1 :: rest, ρ, h =>
    if g1.is_async = 0 ∧ freshT g1.target ρ = true then
    (evIter g rec κ ρ g1.iter h).bind fun q => loopL q.1.2 q.1.1 (fun x h => (bindT ω g1.target x ρ).bind fun ρ' =>
      (tsts recT κ ρ' g1.ifs h).bind fun p => if p.1 then cgo g rec recT ω elt acc κ rest ρ' p.2 else some p.2) q.1.1 q.2
    else none

noncomputable def evComp (g : Glob) (rec : Rec) (recT : RecT) (elt : Expr) (gens : List Comprehension) (scope : Scope) (κ : Kap) (ρ : Rho) (h : Hp) : Option (V × Hp) :=
  match gens with
  | [] => none
  | g1 :: rest =>
    if g1.is_async = 0 ∧ freeOk scope κ = true ∧ freshT g1.target (fun y => if ownName scope y then none else ρ y) = true then
    (evIter g rec κ ρ g1.iter h).bind fun q =>
      (loopL q.1.2 q.1.1 (fun x h => (bindT (ownName scope) g1.target x (fun y => if ownName scope y then none else ρ y)).bind fun ρ' =>
        (tsts recT (compKap scope κ) ρ' g1.ifs h).bind fun p => if p.1 then cgo g rec recT (ownName scope) elt q.2.length (compKap scope κ) rest ρ' p.2 else some p.2)
        q.1.1 (q.2 ++ [[]])).map fun h' => (.ref q.2.length, h')
    else none

noncomputable def okBase : Expr → Bool
  | .Call (.Name _ _) [] [] _ => false
  | _ => true

noncomputable def sliceOf : Expr → Option (Option Expr × Option Expr × Option Expr)
  | .Slice l u st _ => some (l, u, st)
  | _ => none
noncomputable def litStr : Expr → Option Str
  | .Constant c _ _ => match c with | .str s => some s | _ => none
  | _ => none
/-- str.replace with two written texts -/
noncomputable def replV (x : V) (y z : Str) (h : Hp) : Option (V × Hp) :=
  match x with
  | .str s => if s.length ≤ 1000 ∧ z.length ≤ 14 ∧ (y == z) = false ∧ (Txt.replace s y z).length ≤ 1000 then some (.str (Txt.replace s y z), h) else none
  | _ => none
noncomputable def repl (x : V) (args : List Expr) (h : Hp) : Option (V × Hp) :=
  match args with
  | [e, f] => (litStr e).bind fun y => (litStr f).bind fun z => replV x y z h
  | _ => none

/-- the functions that are called only where a token has been given out -/
noncomputable def zOf (x : Str) : Nat := if x = "_law_due" then 1 else 0
noncomputable def startsConst : Expr → Bool
  | .Call (.Attribute (.Constant (.str _) _ _) _ _) _ _ _ => true
  | _ => false
noncomputable def tokOk (z : Nat) (f : Str) (args : List Expr) : Bool :=
  decide (zOf f ≤ z) || (match args with | [e] => startsConst e | _ => false)

noncomputable def evF (g : Glob) (b : Nat) (rec : Rec) (recT : RecT) (e : Expr) (κ : Kap) (ρ : Rho) (h : Hp) : Option (V × Hp) :=
  match e with
  | .Constant c _ _ => (cval c).map (·, h)
  | .Name x _ => (nameV g κ ρ x).map (·, h)
  | .BoolOp op vs _ => evBool rec op κ ρ vs h
  | .BinOp l op r _ => (rec l κ ρ h).bind fun p => (rec r κ ρ p.2).bind fun q => binop op p.1 q.1 q.2
  | .UnaryOp op x _ => (rec x κ ρ h).bind fun p => (unop op p.1).map (·, p.2)
  | .Compare l ops cs _ => (rec l κ ρ h).bind fun p => (cmpChain rec κ ρ p.1 ops cs p.2).map fun q => (.bool q.1, q.2)
  | .Call f args kws pos => match kws with
    | [] => (match f with
      | .Attribute o m ap => if okBase o ∧ ap.endLine = pos.line ∧ args.length < 30 then
          (rec o κ ρ h).bind fun p => if m = "replace" then (if g.z = 1 then repl p.1 args p.2 else none) else (evs rec κ ρ args p.2).bind fun q => callM b m p.1 q.1 q.2 else none
      | .Name f _ => if κ f = some .globalImplicit ∧ f ≠ "__debug__" ∧ args.length < 30 then
          (if g.isFn f then (if g.val f = none ∧ tokOk g.z f args = true then (evs rec κ ρ args h).bind fun q => g.fn f q.1 q.2 else none)
          else if isGlobalB g κ f then (evs rec κ ρ args h).bind fun q => callB f q.1 q.2 else none) else none
      | _ => none)
    | _ => none
  | .Subscript v i _ => (match sliceOf i with
    | some x => (rec v κ ρ h).bind fun p => (evOpt rec κ ρ x.1 p.2).bind fun q => (evOpt rec κ ρ x.2.1 q.2).bind fun r => (evOpt rec κ ρ x.2.2 r.2).bind fun t =>
        slice p.1 q.1 r.1 t.1 t.2
    | none => (rec v κ ρ h).bind fun p => (rec i κ ρ p.2).bind fun q => (idx p.1 q.1 q.2).map (·, q.2))
  | .List es _ => (evs rec κ ρ es h).bind fun q => if q.1.length ≤ sizeLine then some (.ref q.2.length, q.2 ++ [q.1]) else none
  | .Tuple es _ _ => (evs rec κ ρ es h).bind fun q => if q.1.length ≤ sizeLine then some (.tup q.1, q.2) else none
  | .ListComp elt gens scope _ => evComp g rec recT elt gens scope κ ρ h
  | _ => none

noncomputable def tstAll (recT : RecT) (op : BoolOp) (κ : Kap) (ρ : Rho) : List Expr → Hp → Option (Bool × Hp)
  | [], h => some (op == .And, h)
  | e :: r, h => (recT e κ ρ h).bind fun p =>
    match op, p.1 with
    | .And, false => some (false, p.2)
    | .Or, true => some (true, p.2)
    | _, _ => tstAll recT op κ ρ r p.2

noncomputable def isNotOp : UnaryOp → Bool
  | .Not => true
  | _ => false

noncomputable def tstF (rec : Rec) (recT : RecT) (e : Expr) (κ : Kap) (ρ : Rho) (h : Hp) : Option (Bool × Hp) :=
  match e with
  | .UnaryOp op x _ => if isNotOp op then (recT x κ ρ h).map fun p => (!p.1, p.2) else none
  | .BoolOp op vs _ => tstAll recT op κ ρ vs h
  | .Compare l ops cs _ => (rec l κ ρ h).bind fun p => cmpChain rec κ ρ p.1 ops cs p.2
  | .IfExp .. => none
  | e => (rec e κ ρ h).bind fun p => (truthV p.1).map (·, p.2)

noncomputable def evT (g : Glob) (b : Nat) : Nat → Rec × RecT
  | 0 => (fun _ _ _ _ => none, fun _ _ _ _ => none)
  | n + 1 => (evF g b (evT g b n).1 (evT g b n).2, tstF (evT g b n).1 (evT g b n).2)

abbrev RecS := Stmt → Rho → Hp → Option (Fl × Rho × Hp)
noncomputable def exs (recS : RecS) : List Stmt → Rho → Hp → Option (Fl × Rho × Hp)
  | [], ρ, h => some (.next, ρ, h)
  | s :: r, ρ, h => (recS s ρ h).bind fun q => match q.1 with
    | .next => exs recS r q.2.1 q.2.2
    | _ => some q

noncomputable def isNoneV : V → Bool
  | .none => true
  | _ => false
noncomputable def notComp : Expr → Bool
  | .ListComp .. | .SetComp .. | .DictComp .. => false
  | _ => true

noncomputable def exF (g : Glob) (b : Nat) (ω : Str → Bool) (κ : Kap) (rec : Rec) (recT : RecT) (recS : RecS) (st : Stmt) (ρ : Rho) (h : Hp) : Option (Fl × Rho × Hp) :=
  match st with
  | .Expr e _ => if notComp e then (rec e κ ρ h).bind fun p => if isNoneV p.1 then some (.next, ρ, p.2) else none else none
  | .Break _ => some (.brk, ρ, h)
  | .Continue _ => some (.cont, ρ, h)
  | .Return (some e) _ => (rec e κ ρ h).map fun p => (.ret p.1, ρ, p.2)
  | .Assign ts e _ => (match ts with
    | [.Name x _] => if ω x then (rec e κ ρ h).map fun p => (.next, upd ρ x p.1, p.2) else none
    | _ => none)
  | .If t body orelse _ => (recT t κ ρ h).bind fun p => if p.1 then exs recS body ρ p.2 else exs recS orelse ρ p.2
  | .For t it body orelse _ => match orelse with
    | [] => (evIter g rec κ ρ it h).bind fun q => loopS q.1.2 q.1.1 (fun x ρ h => (bindT ω t x ρ).bind fun ρ' => exs recS body ρ' h) q.1.1 ρ q.2
    | _ => none
  | _ => none

noncomputable def exT (g : Glob) (b : Nat) (ω : Str → Bool) (κ : Kap) : Nat → RecS
  | 0 => fun _ _ _ => none
  | n + 1 => exF g b ω κ (evT g b n).1 (evT g b n).2 (exT g b ω κ n)

structure FnD where
  params : List Str
  body : List Stmt
  scope : Scope

noncomputable def fuel : Nat := 30

noncomputable def runFn (g : Glob) (f : FnD) (args : List V) (h : Hp) : Option (V × Hp) :=
  if args.length = f.params.length then
    match exs (exT g h.length (fun x => ownName f.scope x) (fun x => f.scope.names.lookup x) fuel) f.body (fun x => (f.params.zip args).reverse.lookup x) h with
    | some (.ret v, _, h') => some (v, h')
    | some (.next, _, h') => some (.none, h')
    | _ => none
  else none

noncomputable def fnIn (x : Str) : List Stmt → Option FnD
  | [] => none
  | .FunctionDef name a body [] _ _ scope _ _ _ :: r => if name = x then some ⟨a.args.map (·.arg), body, scope⟩ else fnIn x r
  | _ :: r => fnIn x r
noncomputable def fnOf (p : Program) (x : Str) : Option FnD := fnIn x p.main.body

noncomputable def dctsOf (_ : Program) (_ : Bool) : Str → Option (List (Str × V)) := fun _ => none

noncomputable def globs (p : Program) (val : Str → Option V) (u : Bool) : Nat → Glob
  | 0 => ⟨val, fun x => (fnOf p x).isSome, fun _ _ _ => none, fun _ => none, 0⟩
  | d + 1 => ⟨val, fun x => (fnOf p x).isSome, fun x args h => (fnOf p x).bind fun f => runFn { globs p val u d with z := zOf x } f args h, dctsOf p u, 0⟩

/-- the top's tables, read by the small reading itself -/
noncomputable def topTab : List Stmt → List (Str × V) → Hp → List (Str × V) × Hp
  | [], tv, h => (tv, h)
  | .Assign [.Name x _] e _ :: r, tv, h =>
    match (evT ⟨fun x => tv.lookup x, fun _ => false, fun _ _ _ => none, fun _ => none, 0⟩ 0 10).1 e (fun _ => none) (fun _ => none) h with
    | some (v, h') => topTab r ((x, v) :: tv) h'
    | none => topTab r tv h
  | _ :: r, tv, h => topTab r tv h

/-- the defs of the text -/
noncomputable def fnList : List Stmt → List (Str × FnD)
  | [] => []
  | .FunctionDef name a body [] _ _ scope _ _ _ :: r => (name, ⟨a.args.map (·.arg), body, scope⟩) :: fnList r
  | _ :: r => fnList r

noncomputable def runLaw (p : Program) (u : Bool) (d : Nat) (ns : List Int) : Option (V × Hp) :=
  let t := topTab p.main.body [] []
  (globs p (fun x => t.1.lookup x) u d).fn "law" [.ref t.2.length] (t.2 ++ [ns.map .int])

end Mine
end

section
set_option autoImplicit false
namespace Mine
open PySem

mutual
/-- the value w of the model, in the heap h, stands for v; σ: the addresses of the small heap's lists -/
inductive VR (σ : List Addr) (h : Heap) : V → Value → Prop
  | none : VR σ h .none .none
  | bool (b) : VR σ h (.bool b) (.bool b)
  | int (i t) : VR σ h (.int i) (.int i t)
  | str (x t) : x.length ≤ sizeLine → VR σ h (.str x) (.str x t)
  | type (n) : VR σ h (.type n) (.type n)
  | tup {vs r o arr n} : h.get? r = some o → o.cls = .type "tuple" → o.data = .seq arr n → VRs σ h vs arr.toList → vs.length ≤ sizeLine → VR σ h (.tup vs) (.ref r)
  | ref {a r} : σ[a]? = some r → VR σ h (.ref a) (.ref r)
inductive VRs (σ : List Addr) (h : Heap) : List V → List Value → Prop
  | nil : VRs σ h [] []
  | cons {v vs w ws} : VR σ h v w → VRs σ h vs ws → VRs σ h (v :: vs) (w :: ws)
end

/-- tuples stand as they stood -/
noncomputable def Tups (h h' : Heap) : Prop := ∀ b o, h.get? b = some o → o.cls = .type "tuple" → (∃ arr n, o.data = .seq arr n) → h'.get? b = some o

theorem Tups.refl (h : Heap) : Tups h h := fun _ _ e _ _ => e
theorem Tups.trans {h₁ h₂ h₃ : Heap} (x : Tups h₁ h₂) (y : Tups h₂ h₃) : Tups h₁ h₃ := fun b o e c d => y b o (x b o e c d) c d
theorem Tups.keeps {h h' : Heap} (k : ∀ b o, h.get? b = some o → h'.get? b = some o) : Tups h h' := fun b o e _ _ => k b o e

theorem getElem?_prefix {σ σ' : List Addr} (p : σ <+: σ') {a : Nat} {r : Addr} (e : σ[a]? = some r) : σ'[a]? = some r := by
  obtain ⟨δ, rfl⟩ := p
  rw [List.getElem?_append_left (by have := List.getElem?_eq_some_iff.mp e; exact this.1)]
  exact e

mutual
theorem VR.mono {σ σ' : List Addr} {h h' : Heap} (p : σ <+: σ') (t : Tups h h') : ∀ {v : V} {w : Value}, VR σ h v w → VR σ' h' v w
  | _, _, .none => .none
  | _, _, .bool b => .bool b
  | _, _, .int i u => .int i u
  | _, _, .str x u l => .str x u l
  | _, _, .type n => .type n
  | _, _, .tup e c d r l => .tup (t _ _ e c ⟨_, _, d⟩) c d (VRs.mono p t r) l
  | _, _, .ref e => .ref (getElem?_prefix p e)
theorem VRs.mono {σ σ' : List Addr} {h h' : Heap} (p : σ <+: σ') (t : Tups h h') : ∀ {vs : List V} {ws : List Value}, VRs σ h vs ws → VRs σ' h' vs ws
  | _, _, .nil => .nil
  | _, _, .cons x r => .cons (VR.mono p t x) (VRs.mono p t r)
end

theorem VRs.length {σ : List Addr} {h : Heap} : ∀ {vs : List V} {ws : List Value}, VRs σ h vs ws → vs.length = ws.length
  | _, _, .nil => rfl
  | _, _, .cons _ r => by simp [VRs.length r]
theorem VRs.get {σ : List Addr} {h : Heap} : ∀ {vs : List V} {ws : List Value} (_ : VRs σ h vs ws) {i : Nat} {v : V}, vs[i]? = some v → ∃ w, ws[i]? = some w ∧ VR σ h v w
  | _, _, .cons x r, 0, v, e => by simp at e; subst e; exact ⟨_, rfl, x⟩
  | _, _, .cons x r, i + 1, v, e => by
    simp at e
    obtain ⟨w, a, b⟩ := VRs.get r e
    exact ⟨w, by simpa using a, b⟩
theorem VRs.append {σ : List Addr} {h : Heap} : ∀ {vs vs' : List V} {ws ws' : List Value}, VRs σ h vs ws → VRs σ h vs' ws' → VRs σ h (vs ++ vs') (ws ++ ws')
  | _, _, _, _, .nil, y => y
  | _, _, _, _, .cons x r, y => .cons x (VRs.append r y)
theorem VRs.set {σ : List Addr} {h : Heap} : ∀ {vs : List V} {ws : List Value} (_ : VRs σ h vs ws) {i : Nat} {v : V} {w : Value}, VR σ h v w → VRs σ h (vs.set i v) (ws.set i w)
  | _, _, .nil, _, _, _, _ => .nil
  | _, _, .cons _ r, 0, _, _, q => .cons q r
  | _, _, .cons x r, _ + 1, _, _, q => .cons x (VRs.set r q)
theorem VRs.eraseIdx {σ : List Addr} {h : Heap} : ∀ {vs : List V} {ws : List Value} (_ : VRs σ h vs ws) {i : Nat}, VRs σ h (vs.eraseIdx i) (ws.eraseIdx i)
  | _, _, .nil, _ => .nil
  | _, _, .cons _ r, 0 => r
  | _, _, .cons x r, _ + 1 => .cons x (VRs.eraseIdx r)
theorem VRs.drop {σ : List Addr} {h : Heap} : ∀ {vs : List V} {ws : List Value} (_ : VRs σ h vs ws) (i : Nat), VRs σ h (vs.drop i) (ws.drop i)
  | _, _, x, 0 => x
  | _, _, .nil, _ + 1 => .nil
  | _, _, .cons _ r, i + 1 => VRs.drop r i
theorem VRs.take {σ : List Addr} {h : Heap} : ∀ {vs : List V} {ws : List Value} (_ : VRs σ h vs ws) (i : Nat), VRs σ h (vs.take i) (ws.take i)
  | _, _, _, 0 => .nil
  | _, _, .nil, _ + 1 => .nil
  | _, _, .cons x r, i + 1 => .cons x (VRs.take r i)
theorem VRs.reverse {σ : List Addr} {h : Heap} : ∀ {vs : List V} {ws : List Value}, VRs σ h vs ws → VRs σ h vs.reverse ws.reverse
  | _, _, .nil => .nil
  | _, _, .cons x r => by rw [List.reverse_cons, List.reverse_cons]; exact VRs.append (VRs.reverse r) (.cons x .nil)

/-- the small heap stands in h -/
structure WR (hT : Heap) (σ : List Addr) (H : Hp) (h : Heap) : Prop where
  len : σ.length = H.length
  obj : ∀ (a : Nat) xs r, H[a]? = some xs → σ[a]? = some r → ∃ arr, h.PlainList r arr ∧ VRs σ h xs arr.toList ∧ xs.length ≤ sizeLine
  nodup : σ.Nodup
  top : ∀ b o, hT.get? b = some o → h.get? b = some o

/-- from h to h': more lists; all that stood stands, but W and the lists from b on -/
structure Ext (W : List Addr) (b : Nat) (σ : List Addr) (h : Heap) (σ' : List Addr) (h' : Heap) : Prop where
  pre : ∃ δ, σ' = σ ++ δ ∧ ∀ r ∈ δ, h.get? r = none
  there : ∀ a o, h.get? a = some o → ∃ o', h'.get? a = some o'
  keep : ∀ a o, h.get? a = some o → a ∉ W → a ∉ σ.drop b → h'.get? a = some o

theorem Ext.refl (W : List Addr) (b : Nat) (σ : List Addr) (h : Heap) : Ext W b σ h σ h := ⟨⟨[], by simp, by simp⟩, fun _ o e => ⟨o, e⟩, fun _ _ e _ _ => e⟩
theorem Ext.prefix {W : List Addr} {b : Nat} {σ σ' : List Addr} {h h' : Heap} (x : Ext W b σ h σ' h') : σ <+: σ' := let ⟨δ, e, _⟩ := x.pre; ⟨δ, e.symm⟩
theorem drop_append_sub {b : Nat} {σ δ : List Addr} {a : Addr} (h : a ∈ (σ ++ δ).drop b) : a ∈ σ.drop b ∨ a ∈ δ := by
  rw [List.drop_append] at h
  rcases List.mem_append.mp h with h | h
  · exact .inl h
  · exact .inr (List.mem_of_mem_drop h)
theorem Ext.trans {W : List Addr} {b : Nat} {σ₁ σ₂ σ₃ : List Addr} {h₁ h₂ h₃ : Heap} (x : Ext W b σ₁ h₁ σ₂ h₂) (y : Ext W b σ₂ h₂ σ₃ h₃) : Ext W b σ₁ h₁ σ₃ h₃ := by
  obtain ⟨δ, rfl, hδ⟩ := x.pre
  obtain ⟨ε, rfl, hε⟩ := y.pre
  refine ⟨⟨δ ++ ε, by simp, fun r hr => ?_⟩, fun a o e => let ⟨o', e'⟩ := x.there a o e; y.there a o' e', fun a o e hw hd => ?_⟩
  · rcases List.mem_append.mp hr with h | h
    · exact hδ r h
    · cases q : h₁.get? r with
      | none => rfl
      | some o =>
        obtain ⟨o', e'⟩ := x.there r o q
        rw [hε r h] at e'; cases e'
  · refine y.keep a o (x.keep a o e hw hd) hw fun hm => ?_
    rcases drop_append_sub hm with h | h
    · exact hd h
    · rw [hδ a h] at e; cases e
theorem Ext.weaken {W W' : List Addr} {b : Nat} {σ σ' : List Addr} {h h' : Heap} (x : Ext W b σ h σ' h') (hs : ∀ a o, h.get? a = some o → a ∈ W → a ∈ W') : Ext W' b σ h σ' h' :=
  ⟨x.pre, x.there, fun a o e hw hd => x.keep a o e (fun q => hw (hs a o e q)) hd⟩
/-- a callee's step is a step of the caller's: it changes nothing of what stood -/
theorem Ext.base {W : List Addr} {b c : Nat} {σ σ' : List Addr} {h h' : Heap} (x : Ext W c σ h σ' h') (hc : b ≤ c) : Ext W b σ h σ' h' :=
  ⟨x.pre, x.there, fun a o e hw hd => x.keep a o e hw fun q => hd (by
    rw [show c = b + (c - b) by omega, ← List.drop_drop] at q
    exact List.mem_of_mem_drop q)⟩

theorem WR.lists {hT : Heap} {σ : List Addr} {H : Hp} {h : Heap} (x : WR hT σ H h) {r : Addr} (hr : r ∈ σ) : ∃ arr, h.PlainList r arr := by
  obtain ⟨a, ha, e⟩ := List.getElem_of_mem hr
  have hH : a < H.length := by rw [← x.len]; exact ha
  obtain ⟨arr, p, _⟩ := x.obj a H[a] r (by simp [hH]) (by rw [List.getElem?_eq_getElem ha, e])
  exact ⟨arr, p⟩
theorem WR.lt {hT : Heap} {σ : List Addr} {H : Hp} {h : Heap} (x : WR hT σ H h) {r : Addr} (hr : r ∈ σ) : r < h.objs.size := by
  obtain ⟨arr, n, e⟩ := x.lists hr
  exact Heap.lt_size e
theorem WR.not_of {hT : Heap} {σ : List Addr} {H : Hp} {h : Heap} (x : WR hT σ H h) {r : Addr} {o : Obj} (e : h.get? r = some o) (hc : o.cls ≠ .type "list") : r ∉ σ := by
  intro hr
  obtain ⟨arr, n, e'⟩ := x.lists hr
  rw [e] at e'; cases e'
  exact hc rfl
theorem WR.not_of_data {hT : Heap} {σ : List Addr} {H : Hp} {h : Heap} (x : WR hT σ H h) {r : Addr} {o : Obj} (e : h.get? r = some o) (hc : ∀ arr n, o.data ≠ .seq arr n) : r ∉ σ := by
  intro hr
  obtain ⟨arr, n, e'⟩ := x.lists hr
  rw [e] at e'; cases e'
  exact hc _ _ rfl

/-- the frame's names stand in h -/
structure EnvOK (κ : Kap) (ω : Str → Bool) (ρ : Rho) (W : List Addr) (env : Env) (σ : List Addr) (h : Heap) : Prop where
  fn : env.scope.kind = .function
  kind : ∀ x, env.kindOf x = κ x
  glob : env.globals = mainGlobals
  blt : env.builtins = builtinsNs
  ns : ∃ m, h.Ns env.locals m ∧ ∀ x v, κ x = some .local → ρ x = some v → ∃ w, m x = some w ∧ VR σ h v w
  cell : ∀ x, (κ x = some .cell ∨ κ x = some .free) → ∃ c v₀, env.cells.lookup x = some c ∧ h.IsCell c v₀ ∧ ∀ v, ρ x = some v → ∃ w, v₀ = some w ∧ VR σ h v w
  inj : ∀ x y c, env.cells.lookup x = some c → env.cells.lookup y = some c → x = y
  own : ∀ x, ω x = true → κ x = some .local ∨ (κ x = some .cell ∧ ∀ c, env.cells.lookup x = some c → c ∈ W)
  loc : env.locals ∈ W
  wobj : ∀ a ∈ W, ∃ o, h.get? a = some o ∧ (∀ arr n, o.data ≠ .seq arr n)

structure Good (hT : Heap) (σ₀ : List Addr) (κ : Kap) (ω : Str → Bool) (ρ : Rho) (W : List Addr) (env : Env) (b : Nat) (σ : List Addr) (H : Hp) (h : Heap) : Prop where
  wr : WR hT σ H h
  env : EnvOK κ ω ρ W env σ h
  base : b ≤ H.length
  above : ∀ r ∈ σ.drop b, hT.get? r = none
  wabove : ∀ a ∈ W, hT.get? a = none
  tab : σ₀ <+: σ

/-- an expression's step -/
theorem Ext.tups {hT : Heap} {b : Nat} {σ σ' : List Addr} {H : Hp} {h h' : Heap} (x : Ext [] b σ h σ' h') (wr : WR hT σ H h) : Tups h h' := fun a o e c _ =>
  x.keep a o e (by simp) fun hm => wr.not_of e (by rw [c]; decide) (List.mem_of_mem_drop hm)
theorem Ext.tupsW {hT : Heap} {W : List Addr} {b : Nat} {σ σ' : List Addr} {H : Hp} {h h' : Heap} (x : Ext W b σ h σ' h') (wr : WR hT σ H h)
    (hw : ∀ a ∈ W, ∃ o, h.get? a = some o ∧ (∀ arr n, o.data ≠ .seq arr n)) : Tups h h' := fun a o e c d =>
  x.keep a o e (fun q => by
    obtain ⟨o', e', n'⟩ := hw a q
    rw [e] at e'; cases e'
    obtain ⟨arr, n, d⟩ := d
    exact n' arr n d) fun hm => wr.not_of e (by rw [c]; decide) (List.mem_of_mem_drop hm)

theorem EnvOK.ext {hT : Heap} {κ : Kap} {ω : Str → Bool} {ρ : Rho} {W : List Addr} {env : Env} {b : Nat} {σ σ' : List Addr} {H : Hp} {h h' : Heap} (x : EnvOK κ ω ρ W env σ h) (wr : WR hT σ H h) (e : Ext [] b σ h σ' h') : EnvOK κ ω ρ W env σ' h' := by
  have tu := e.tups wr
  have keepD : ∀ a o, h.get? a = some o → (∀ arr n, o.data ≠ .seq arr n) → h'.get? a = some o := fun a o ea hd => e.keep a o ea (by simp) fun hm => wr.not_of_data ea hd (List.mem_of_mem_drop hm)
  refine ⟨x.fn, x.kind, x.glob, x.blt, ?_, ?_, x.inj, x.own, x.loc, ?_⟩
  · obtain ⟨m, ⟨o, es, ep, ho, hd, r⟩, hm⟩ := x.ns
    refine ⟨m, ⟨o, es, ep, keepD _ _ ho (by rw [hd]; intro _ _ q; cases q), hd, r⟩, fun y v hk hy => ?_⟩
    obtain ⟨w, e1, e2⟩ := hm y v hk hy
    exact ⟨w, e1, e2.mono e.prefix tu⟩
  · intro y hy
    obtain ⟨c, v₀, hc, ⟨o, ho, hd⟩, hv⟩ := x.cell y hy
    refine ⟨c, v₀, hc, ⟨o, keepD _ _ ho (by rw [hd]; intro _ _ q; cases q), hd⟩, fun v e1 => ?_⟩
    obtain ⟨w, e2, e3⟩ := hv v e1
    exact ⟨w, e2, e3.mono e.prefix tu⟩
  · intro a ha
    obtain ⟨o, ho, hd⟩ := x.wobj a ha
    exact ⟨o, keepD _ _ ho hd, hd⟩

theorem none_top {hT h : Heap} (top : ∀ b o, hT.get? b = some o → h.get? b = some o) {r : Addr} (e : h.get? r = none) : hT.get? r = none := by
  cases q : hT.get? r with
  | none => rfl
  | some o => rw [top r o q] at e; cases e
theorem Good.step {hT : Heap} {σ₀ : List Addr} {κ : Kap} {ω : Str → Bool} {ρ : Rho} {W : List Addr} {env : Env} {b : Nat} {σ σ' : List Addr} {H H' : Hp} {h h' : Heap} (x : Good hT σ₀ κ ω ρ W env b σ H h) (wr : WR hT σ' H' h') (e : Ext [] b σ h σ' h') : Good hT σ₀ κ ω ρ W env b σ' H' h' := by
  refine ⟨wr, x.env.ext x.wr e, ?_, ?_, x.wabove, x.tab.trans e.prefix⟩
  · obtain ⟨δ, rfl, _⟩ := e.pre
    have h1 := x.base
    rw [← x.wr.len] at h1
    rw [← wr.len, List.length_append]; omega
  · obtain ⟨δ, rfl, hδ⟩ := e.pre
    intro r hr
    rcases drop_append_sub hr with q | q
    · exact x.above r q
    · exact none_top x.wr.top (hδ r q)

/-- an object is pushed that is no list of the small heap -/
theorem WR.push {hT : Heap} {σ : List Addr} {H : Hp} {h : Heap} (x : WR hT σ H h) (o : Obj) : WR hT σ H (h.push o) :=
  have k : ∀ b o', h.get? b = some o' → (h.push o).get? b = some o' := fun _ _ e => Heap.get?_push_of_some _ e
  ⟨x.len, fun a xs r h1 h2 => let ⟨arr, p, q, l⟩ := x.obj a xs r h1 h2; ⟨arr, p.at fun o' e => k _ _ e, q.mono (List.prefix_refl _) (Tups.keeps k), l⟩, x.nodup, fun b o' e => k _ _ (x.top b o' e)⟩
theorem get_size (h : Heap) : h.get? h.objs.size = none := by
  cases q : h.get? h.objs.size with
  | none => rfl
  | some o => exact absurd (Heap.lt_size q) (Nat.lt_irrefl _)
theorem Ext.push (W : List Addr) (b : Nat) (σ : List Addr) (h : Heap) (o : Obj) : Ext W b σ h σ (h.push o) :=
  ⟨⟨[], by simp, by simp⟩, fun _ o e => ⟨o, Heap.get?_push_of_some _ e⟩, fun _ _ e _ _ => Heap.get?_push_of_some _ e⟩
/-- a list is pushed -/
theorem WR.pushL {hT : Heap} {σ : List Addr} {H : Hp} {h : Heap} (x : WR hT σ H h) {xs : List V} {arr : Array Value} (n : Nat) (hv : VRs σ h xs arr.toList) (hl : xs.length ≤ sizeLine) :
    WR hT (σ ++ [h.objs.size]) (H ++ [xs]) (h.push { cls := .type "list", data := .seq arr n }) := by
  have k : ∀ b o', h.get? b = some o' → (h.push { cls := .type "list", data := .seq arr n }).get? b = some o' := fun _ _ e => Heap.get?_push_of_some _ e
  have p : σ <+: σ ++ [h.objs.size] := List.prefix_append _ _
  refine ⟨by simp [x.len], fun a ys r h1 h2 => ?_, ?_, fun b o' e => k _ _ (x.top b o' e)⟩
  · rcases Nat.lt_trichotomy a H.length with ha | ha | ha
    · rw [List.getElem?_append_left ha] at h1
      rw [List.getElem?_append_left (by rw [x.len]; exact ha)] at h2
      obtain ⟨arr', p1, q, l⟩ := x.obj a ys r h1 h2
      exact ⟨arr', p1.at fun o' e => k _ _ e, q.mono p (Tups.keeps k), l⟩
    · subst ha
      rw [List.getElem?_append_right (Nat.le_refl _)] at h1
      rw [List.getElem?_append_right (by rw [x.len]; exact Nat.le_refl _)] at h2
      simp at h1
      simp [x.len] at h2
      subst h1 h2
      exact ⟨arr, ⟨n, Heap.get?_push_size _ rfl⟩, hv.mono p (Tups.keeps k), hl⟩
    · have : (H ++ [xs])[a]? = none := List.getElem?_eq_none (by simp; omega)
      rw [this] at h1; cases h1
  · rw [List.nodup_append]
    refine ⟨x.nodup, by simp, fun a ha c hc e => ?_⟩
    simp at hc
    exact absurd (x.lt ha) (by rw [e, hc]; exact Nat.lt_irrefl _)
theorem Ext.pushL (W : List Addr) (b : Nat) (σ : List Addr) (h : Heap) (o : Obj) : Ext W b σ h (σ ++ [h.objs.size]) (h.push o) :=
  ⟨⟨[h.objs.size], rfl, by simp [get_size]⟩, fun _ o e => ⟨o, Heap.get?_push_of_some _ e⟩, fun _ _ e _ _ => Heap.get?_push_of_some _ e⟩

theorem nodup_inj {l : List Addr} (h : l.Nodup) {i j : Nat} (hi : i < l.length) (hj : j < l.length) (e : l[i] = l[j]) : i = j := by
  have p := List.pairwise_iff_getElem.mp h
  rcases Nat.lt_trichotomy i j with q | q | q
  · exact absurd e (p i j hi hj q)
  · exact q
  · exact absurd e.symm (p j i hj hi q)
theorem prefix_same (σ : List Addr) : σ <+: σ := ⟨[], by simp⟩

/-- a list of the small heap is changed -/
theorem WR.setL {hT : Heap} {σ : List Addr} {H : Hp} {h h' : Heap} (x : WR hT σ H h) {a : Nat} {r : Addr} {xs : List V} {arr : Array Value} (hr : σ[a]? = some r) (hs : Heap.SameBut r h h') (hp : h'.PlainList r arr)
    (hv : VRs σ h xs arr.toList) (hl : xs.length ≤ sizeLine) (ht : hT.get? r = none) : WR hT σ (H.set a xs) h' := by
  have tu : Tups h h' := fun b o e c _ => by
    refine (hs.2 b fun q => ?_).trans e
    subst q
    exact x.not_of e (by rw [c]; decide) (List.mem_of_getElem? hr)
  refine ⟨by simp [x.len], fun c ys q h1 h2 => ?_, x.nodup, fun b o e => ?_⟩
  · by_cases hc : c = a
    · subst hc
      rw [hr] at h2; cases h2
      have hlt : c < H.length := by rw [← x.len]; exact (List.getElem?_eq_some_iff.mp hr).1
      rw [List.getElem?_set_self hlt] at h1; cases h1
      exact ⟨arr, hp, hv.mono (prefix_same _) tu, hl⟩
    · rw [List.getElem?_set_ne (Ne.symm hc)] at h1
      obtain ⟨arr', p, w, l⟩ := x.obj c ys q h1 h2
      refine ⟨arr', p.at fun o e => (hs.2 q fun e' => hc ?_).trans e, w.mono (prefix_same _) tu, l⟩
      subst e'
      have h1 := List.getElem?_eq_some_iff.mp h2
      have h2 := List.getElem?_eq_some_iff.mp hr
      obtain ⟨i1, e1⟩ := h1
      obtain ⟨i2, e2⟩ := h2
      exact nodup_inj x.nodup i1 i2 (e1.trans e2.symm)
  · refine (hs.2 b fun q => ?_).trans (x.top b o e)
    subst q
    rw [ht] at e; cases e
theorem there_same {h h' : Heap} {r : Addr} {o₁ : Obj} (hs : Heap.SameBut r h h') (e₁ : h'.get? r = some o₁) : ∀ a o, h.get? a = some o → ∃ o', h'.get? a = some o' := fun a o e => by
  by_cases q : a = r
  · subst q; exact ⟨_, e₁⟩
  · exact ⟨o, (hs.2 a q).trans e⟩
theorem Ext.setL {W : List Addr} {b a : Nat} {σ : List Addr} {h h' : Heap} {r : Addr} {arr : Array Value} (hr : σ[a]? = some r) (hb : b ≤ a) (hs : Heap.SameBut r h h') (hp : h'.PlainList r arr) : Ext W b σ h σ h' :=
  ⟨⟨[], by simp, by simp⟩, there_same hs hp.choose_spec, fun c o e _ hd => (hs.2 c fun q => hd (by
    subst q
    rw [List.mem_iff_getElem?]
    exact ⟨a - b, by rw [List.getElem?_drop, show b + (a - b) = a by omega]; exact hr⟩)).trans e⟩
end Mine
end

section
set_option autoImplicit false
namespace Mine
open PySem PyProof.Rows

structure Room (A : Around) (n : Nat) : Prop where
  hh : A.handled = none
  hd : A.depth + n < 900
  hu : A.units + 10 * n + 300 < cLine

/-- what an expression hands on -/
noncomputable def Kont (hT : Heap) (b : Nat) (σ : List Addr) (v : V) (H' : Hp) (Q : Value → Shared → Prop) (s : Shared) : Prop :=
  ∀ w h' tk σ', WR hT σ' H' h' → VR σ' h' v w → Ext [] b σ s.heap σ' h' → Q w { s with heap := h', toks := tk }

section
variable {prog : Program} {w : World} {A : Around} {E : Value → Shared → Prop} {s : Shared} {hT : Heap} {b : Nat} {σ : List Addr} {H : Hp} {Q : Value → Shared → Prop}

/-- nothing new: the heap as it was -/
theorem Kont.same {v : V} {wv : Value} (k : Kont hT b σ v H Q s) (wr : WR hT σ H s.heap) (hv : VR σ s.heap v wv) (tk : Nat) : Q wv { s with toks := tk } :=
  k wv s.heap tk σ wr hv (Ext.refl ..)
theorem Kont.same' {v : V} {wv : Value} (k : Kont hT b σ v H Q s) (wr : WR hT σ H s.heap) (hv : VR σ s.heap v wv) : Q wv s :=
  k.same wr hv s.toks

theorem sizeLine_val : sizeLine = 16777216 := rfl

theorem strlen_append (x y : Str) : (x ++ y).length = x.length + y.length := by
  show (Str.append x y).length = _
  simp [Str.append, Str.length]

theorem arr_of {σ : List Addr} {h : Heap} {xs : List V} {arr : Array Value} (hv : VRs σ h xs arr.toList) : arr.size = xs.length := by
  rw [hv.length, Array.length_toList]

theorem binop_ok {op : Operator} {x y v : V} {wx wy : Value} {H' : Hp} (he : binop op x y H = some (v, H')) (hx : VR σ s.heap x wx) (hy : VR σ s.heap y wy) (wr : WR hT σ H s.heap)
    (k : Kont hT b σ v H' Q s) : wpAny (model prog w) A (binaryOp op wx wy) Q E s := by
  unfold binop at he
  split at he
  · cases he; cases hx; cases hy; exact PyProof.Rows.add_int (k.same wr (.int _ _) _)
  · cases he; cases hx; cases hy; exact PyProof.Rows.sub_int (k.same wr (.int _ _) _)
  · split at he
    · cases he
    · rename_i hc
      cases he; cases hx; cases hy; exact PyProof.Rows.mod_int hc (k.same wr (.int _ _) _)
  · split at he
    · rename_i hc
      cases he; cases hx; cases hy
      exact PyProof.Rows.floordiv_int hc.1 (k.same wr (.int _ _) _) (.inl (PyProof.noPylong_small hc.2))
    · cases he
  · rename_i a c
    cases hx with | ref ha => cases hy with | ref hc =>
    rename_i ra rc
    cases h1 : H[a]? with
    | none => rw [h1] at he; cases he
    | some xs =>
    cases h2 : H[c]? with
    | none => rw [h1, h2] at he; cases he
    | some ys =>
    rw [h1, h2] at he
    simp only [Option.bind_some] at he
    split at he
    · rename_i hl
      cases he
      obtain ⟨ax, ⟨nx, px⟩, vx, _⟩ := wr.obj a xs ra h1 ha
      obtain ⟨ay, ⟨ny, py⟩, vy, _⟩ := wr.obj c ys rc h2 hc
      have hs : ax.size + ay.size ≤ sizeLine := by rw [arr_of vx, arr_of vy]; exact hl
      refine P.add_list px py ?_ hs
      have hv : VRs σ s.heap (xs ++ ys) (ax ++ ay).toList := by rw [Array.toList_append]; exact vx.append vy
      exact k _ _ s.toks _ (wr.pushL 0 hv (by rw [List.length_append]; exact hl)) (.ref (by rw [← wr.len]; simp)) (Ext.pushL ..)
    · cases he
  · cases he

theorem truthV_ok {v : V} {t : Bool} {wv : Value} {Q : Bool → Shared → Prop} (he : truthV v = some t) (hv : VR σ s.heap v wv) (k : Q t s) : wpAny (model prog w) A (truthy wv) Q E s := by
  cases v <;> simp [truthV] at he
  subst he
  cases hv
  exact wpAny_truthy_bool k

theorem unop_ok {op : UnaryOp} {x v : V} {wx : Value} (he : unop op x = some v) (hx : VR σ s.heap x wx) (wr : WR hT σ H s.heap) (k : Kont hT b σ v H Q s) : wpAny (model prog w) A (unaryOp op wx) Q E s := by
  unfold unop at he
  split at he
  · cases he; cases hx; exact PyProof.Rows.neg_int (k.same wr (.int _ _) _)
  · cases he; cases hx; exact PyProof.Rows.not_of (wpAny_truthy_bool (k.same' wr (.bool _)))
  · cases he

/-! reading -/
theorem rdAll_cons {f : V → Option PyData} {v : V} {vs : List V} {ds : List PyData} (e : rdAll f (v :: vs) = some ds) : ∃ d r, ds = d :: r ∧ f v = some d ∧ rdAll f vs = some r := by
  unfold rdAll at e
  cases h1 : f v with
  | none => rw [h1] at e; cases e
  | some d =>
    cases h2 : rdAll f vs with
    | none => rw [h1, h2] at e; cases e
    | some r =>
      rw [h1, h2] at e
      exact ⟨d, r, (Option.some.inj e).symm, rfl, rfl⟩

theorem reads_all {h : Heap} {f : V → Option PyData} (hf : ∀ v d wv, f v = some d → VR σ h v wv → ∃ as, Reads h wv d as) :
    ∀ {vs : List V} {ws : List Value} {ds : List PyData}, VRs σ h vs ws → rdAll f vs = some ds → ∃ as, ReadsAll h ws ds as
  | _, _, _, .nil, e => by simp [rdAll] at e; subst e; exact ⟨_, .nil⟩
  | _, _, _, .cons x r, e => by
    obtain ⟨d, q, rfl, e1, e2⟩ := rdAll_cons e
    obtain ⟨as, a⟩ := hf _ _ _ e1 x
    obtain ⟨bs, c⟩ := reads_all hf r e2
    exact ⟨_, .cons a c⟩

theorem rd_reads {h : Heap} (wr : WR hT σ H h) : ∀ (n : Nat) (v : V) (d : PyData) (wv : Value), rd n H v = some d → VR σ h v wv → ∃ as, Reads h wv d as
  | n, .none, d, _, e, .none => by simp [rd] at e; subst e; exact ⟨_, .none⟩
  | n, .bool b, d, _, e, .bool _ => by simp [rd] at e; subst e; exact ⟨_, .bool b⟩
  | n, .int i, d, _, e, .int _ t => by simp [rd] at e; subst e; exact ⟨_, .int i t⟩
  | n, .str x, d, _, e, .str _ t _ => by simp [rd] at e; obtain ⟨_, rfl⟩ := e; exact ⟨_, .str x t⟩
  | 0, .tup _, d, _, e, _ => by simp [rd] at e
  | 0, .ref _, d, _, e, _ => by simp [rd] at e
  | 0, .type _, d, _, e, _ => by simp [rd] at e
  | _ + 1, .type _, d, _, e, _ => by simp [rd] at e
  | n + 1, .tup vs, d, _, e, .tup h1 h2 h3 h4 _ => by
    unfold rd at e
    cases h5 : rdAll (rd n H) vs with
    | none => rw [h5] at e; cases e
    | some ds =>
      rw [h5] at e; cases e
      obtain ⟨as, q⟩ := reads_all (fun v d wv e x => rd_reads wr n v d wv e x) h4 h5
      exact ⟨_, .tuple h1 h2 h3 q⟩
  | n + 1, .ref a, d, _, e, .ref ha => by
    unfold rd at e
    cases h0 : H[a]? with
    | none => rw [h0] at e; cases e
    | some vs =>
    rw [h0] at e
    simp only [Option.bind_some] at e
    cases h5 : rdAll (rd n H) vs with
    | none => rw [h5] at e; cases e
    | some ds =>
      rw [h5] at e; cases e
      obtain ⟨arr, ⟨m, p⟩, vx, _⟩ := wr.obj a vs _ h0 ha
      obtain ⟨as, q⟩ := reads_all (fun v d wv e x => rd_reads wr n v d wv e x) vx h5
      exact ⟨_, .list p rfl rfl q⟩

theorem rdAll_can {f : V → Option PyData} {n : Nat} (hf : ∀ v d, f v = some d → d.canLay0 = true ∧ d.depth ≤ n) : ∀ {vs : List V} {ds : List PyData}, rdAll f vs = some ds → PyData.canLayAll0 ds = true ∧ PyData.depthAll ds ≤ n
  | [], _, e => by simp [rdAll] at e; subst e; simp [PyData.canLayAll0, PyData.depthAll]
  | v :: vs, _, e => by
    obtain ⟨d, q, rfl, e1, e2⟩ := rdAll_cons e
    have h1 := hf _ _ e1
    have h2 := rdAll_can hf e2
    simp only [PyData.canLayAll0, PyData.depthAll, h1.1, h2.1, Bool.and_self, true_and]
    omega
theorem rd_can : ∀ (n : Nat) (v : V) (d : PyData), rd n H v = some d → d.canLay0 = true ∧ d.depth ≤ n
  | n, .none, d, e => by simp [rd] at e; subst e; simp [PyData.canLay0, PyData.depth]
  | n, .bool b, d, e => by simp [rd] at e; subst e; simp [PyData.canLay0, PyData.depth]
  | n, .int i, d, e => by simp [rd] at e; subst e; simp [PyData.canLay0, PyData.depth]
  | n, .str x, d, e => by
    unfold rd at e
    split at e
    · rename_i hc
      cases e
      simp only [PyData.canLay0, PyData.depth]
      exact ⟨hc, Nat.zero_le _⟩
    · cases e
  | 0, .tup _, d, e => by simp [rd] at e
  | 0, .ref _, d, e => by simp [rd] at e
  | 0, .type _, d, e => by simp [rd] at e
  | _ + 1, .type _, d, e => by simp [rd] at e
  | n + 1, .tup vs, d, e => by
    unfold rd at e
    cases h5 : rdAll (rd n H) vs with
    | none => rw [h5] at e; cases e
    | some ds =>
      rw [h5] at e; cases e
      have := rdAll_can (rd_can n) h5
      simp only [PyData.canLay0, PyData.depth, this.1, true_and]
      omega
  | n + 1, .ref a, d, e => by
    unfold rd at e
    cases h0 : H[a]? with
    | none => rw [h0] at e; cases e
    | some vs =>
    rw [h0] at e
    simp only [Option.bind_some] at e
    cases h5 : rdAll (rd n H) vs with
    | none => rw [h5] at e; cases e
    | some ds =>
      rw [h5] at e; cases e
      have := rdAll_can (rd_can n) h5
      simp only [PyData.canLay0, PyData.depth, this.1, true_and]
      omega
end
end Mine
end

section
set_option autoImplicit false
namespace Mine
open PySem PyProof.Rows
section
variable {prog : Program} {w : World} {A : Around} {E : Value → Shared → Prop} {s : Shared} {hT : Heap} {b : Nat} {σ : List Addr} {H : Hp} {Q : Value → Shared → Prop}

theorem eqV_reads {n m : Nat} {x y : V} {d e : PyData} {wx wy : Value} (hd : rd n H x = some d) (he : rd m H y = some e) (hn : n ≤ 64) (hx : VR σ s.heap x wx) (hy : VR σ s.heap y wy) (wr : WR hT σ H s.heap) {r : Nat} (room : Room A r)
    (k : Q (.bool (PyData.eqv d e)) s) : wpAny (model prog w) A (compareOp .Eq wx wy) Q E s := by
  obtain ⟨as, ra⟩ := rd_reads wr _ _ _ _ hd hx
  obtain ⟨bs, rb⟩ := rd_reads wr _ _ _ _ he hy
  have c1 := rd_can _ _ _ hd
  have c2 := rd_can _ _ _ he
  refine SeqAt.compareEq_reads ra rb c1.1 c2.1 ?_ k
  have := room.hu
  have h2 : min d.depth e.depth ≤ d.depth := Nat.min_le_left _ _
  omega
theorem neV_reads {n m : Nat} {x y : V} {d e : PyData} {wx wy : Value} (hd : rd n H x = some d) (he : rd m H y = some e) (hn : n ≤ 64) (hx : VR σ s.heap x wx) (hy : VR σ s.heap y wy) (wr : WR hT σ H s.heap) {r : Nat} (room : Room A r)
    (k : Q (.bool (!PyData.eqv d e)) s) : wpAny (model prog w) A (compareOp .NotEq wx wy) Q E s := by
  obtain ⟨as, ra⟩ := rd_reads wr _ _ _ _ hd hx
  obtain ⟨bs, rb⟩ := rd_reads wr _ _ _ _ he hy
  have c1 := rd_can _ _ _ hd
  have c2 := rd_can _ _ _ he
  refine SeqAt.compareNe_reads ra rb c1.1 c2.1 ?_ k
  have := room.hu
  have h2 : min d.depth e.depth ≤ d.depth := Nat.min_le_left _ _
  omega

theorem eqV_ok {x y : V} {c : Bool} {wx wy : Value} (he : eqV H x y = some c) (hx : VR σ s.heap x wx) (hy : VR σ s.heap y wy) (wr : WR hT σ H s.heap) {r : Nat} (room : Room A r)
    (k : Q (.bool c) s) : wpAny (model prog w) A (compareOp .Eq wx wy) Q E s := by
  unfold eqV at he
  split at he
  · cases he; cases hx; cases hy; exact PyProof.Rows.eq_int k
  · cases he; cases hx; cases hy; exact PyProof.Rows.eq_str k
  · cases he; cases hx; cases hy; exact PyProof.Rows.eq_bool k
  · cases h1 : rd 8 H x with
    | none => rw [h1] at he; cases he
    | some d =>
    cases h2 : rd 8 H y with
    | none => rw [h1, h2] at he; cases he
    | some e =>
    rw [h1, h2] at he
    cases he
    exact eqV_reads h1 h2 (by omega) hx hy wr room k
theorem neV_ok {x y : V} {c : Bool} {wx wy : Value} (he : eqV H x y = some c) (hx : VR σ s.heap x wx) (hy : VR σ s.heap y wy) (wr : WR hT σ H s.heap) {r : Nat} (room : Room A r)
    (k : Q (.bool (!c)) s) : wpAny (model prog w) A (compareOp .NotEq wx wy) Q E s := by
  unfold eqV at he
  split at he
  · cases he; cases hx; cases hy; exact PyProof.Rows.ne_int k
  · cases he; cases hx; cases hy; exact PyProof.Rows.ne_str k
  · cases he; cases hx; cases hy; exact PyProof.Rows.ne_bool k
  · cases h1 : rd 8 H x with
    | none => rw [h1] at he; cases he
    | some d =>
    cases h2 : rd 8 H y with
    | none => rw [h1, h2] at he; cases he
    | some e =>
    rw [h1, h2] at he
    cases he
    exact neV_reads h1 h2 (by omega) hx hy wr room k

theorem rdsL {n : Nat} {vs : List V} {ds : List PyData} {a : Nat} {r : Addr} (h0 : H[a]? = some vs) (ha : σ[a]? = some r) (h5 : rdAll (rd n H) vs = some ds) (wr : WR hT σ H s.heap) : ∃ as, Reads s.heap (.ref r) (.list ds) as := by
  refine rd_reads wr (n + 1) (.ref a) _ _ ?_ (.ref ha)
  unfold rd
  rw [h0, Option.bind_some, h5]; rfl
theorem rdsT {n : Nat} {vs : List V} {ds : List PyData} {wc : Value} (hc : VR σ s.heap (.tup vs) wc) (h5 : rdAll (rd n H) vs = some ds) (wr : WR hT σ H s.heap) : ∃ as, Reads s.heap wc (.tuple ds) as := by
  refine rd_reads wr (n + 1) (.tup vs) _ _ ?_ hc
  unfold rd
  rw [h5]; rfl

theorem inV_cases {x c : V} {t : Bool} (he : inV H x c = some t) : (∃ z y, c = .str z ∧ x = .str y ∧ t = Txt.contains z y) ∨
    (∃ vs d ds, c = .tup vs ∧ rd 8 H x = some d ∧ rdAll (rd 8 H) vs = some ds ∧ t = ds.any fun y => PyData.eqv y d) ∨
    (∃ a vs d ds, c = .ref a ∧ H[a]? = some vs ∧ rd 8 H x = some d ∧ rdAll (rd 8 H) vs = some ds ∧ t = ds.any fun y => PyData.eqv y d) := by
  unfold inV at he
  split at he
  · split at he
    · cases he; exact .inl ⟨_, _, rfl, rfl, rfl⟩
    · cases he
  · rename_i vs
    cases h1 : rd 8 H x with
    | none => rw [h1] at he; cases he
    | some d =>
    cases h2 : rdAll (rd 8 H) vs with
    | none => rw [h1, h2] at he; cases he
    | some e =>
    rw [h1, h2] at he
    cases he
    exact .inr (.inl ⟨vs, d, e, rfl, rfl, h2, rfl⟩)
  · rename_i a
    cases h0 : H[a]? with
    | none => rw [h0] at he; cases he
    | some vs =>
    rw [h0, Option.bind_some] at he
    cases h1 : rd 8 H x with
    | none => rw [h1] at he; cases he
    | some d =>
    cases h2 : rdAll (rd 8 H) vs with
    | none => rw [h1, h2] at he; cases he
    | some e =>
    rw [h1, h2] at he
    cases he
    exact .inr (.inr ⟨a, vs, d, e, rfl, h0, rfl, h2, rfl⟩)
  · cases he

theorem inV_ok {x c : V} {t : Bool} {wx wc : Value} (he : inV H x c = some t) (hx : VR σ s.heap x wx) (hc : VR σ s.heap c wc) (wr : WR hT σ H s.heap) {r : Nat} (room : Room A r)
    (k : Q (.bool t) s) : wpAny (model prog w) A (compareOp .In wx wc) Q E s := by
  rcases inV_cases he with ⟨z, y, rfl, rfl, rfl⟩ | ⟨vs, d, ds, rfl, h1, h2, rfl⟩ | ⟨a, vs, d, ds, rfl, h0, h1, h2, rfl⟩
  · cases hx; cases hc; exact PyProof.Rows.in_str k
  · obtain ⟨as, ra⟩ := rd_reads wr _ _ _ _ h1 hx
    obtain ⟨bs, rb⟩ := rdsT hc h2 wr
    have c1 := rd_can _ _ _ h1
    have c2 := rdAll_can (rd_can 8) h2
    refine SeqAt.in_tuple_reads rb ra c2.1 c1.1 ?_ k
    have := room.hu
    have h3 : min (PyData.depthAll ds) d.depth ≤ d.depth := Nat.min_le_right _ _
    omega
  · cases hc with | ref ha =>
    obtain ⟨as, ra⟩ := rd_reads wr _ _ _ _ h1 hx
    obtain ⟨bs, rb⟩ := rdsL h0 ha h2 wr
    have c1 := rd_can _ _ _ h1
    have c2 := rdAll_can (rd_can 8) h2
    refine SeqAt.in_list_reads rb ra c2.1 c1.1 ?_ k
    have := room.hu
    have h3 : min (PyData.depthAll ds) d.depth ≤ d.depth := Nat.min_le_right _ _
    omega
theorem ninV_ok {x c : V} {t : Bool} {wx wc : Value} (he : inV H x c = some t) (hx : VR σ s.heap x wx) (hc : VR σ s.heap c wc) (wr : WR hT σ H s.heap) {r : Nat} (room : Room A r)
    (k : Q (.bool (!t)) s) : wpAny (model prog w) A (compareOp .NotIn wx wc) Q E s := by
  rcases inV_cases he with ⟨z, y, rfl, rfl, rfl⟩ | ⟨vs, d, ds, rfl, h1, h2, rfl⟩ | ⟨a, vs, d, ds, rfl, h0, h1, h2, rfl⟩
  · cases hx; cases hc; exact PyProof.Rows.notIn_str k
  · obtain ⟨as, ra⟩ := rd_reads wr _ _ _ _ h1 hx
    obtain ⟨bs, rb⟩ := rdsT hc h2 wr
    have c1 := rd_can _ _ _ h1
    have c2 := rdAll_can (rd_can 8) h2
    refine SeqAt.notIn_tuple_reads rb ra c2.1 c1.1 ?_ k
    have := room.hu
    have h3 : min (PyData.depthAll ds) d.depth ≤ d.depth := Nat.min_le_right _ _
    omega
  · cases hc with | ref ha =>
    obtain ⟨as, ra⟩ := rd_reads wr _ _ _ _ h1 hx
    obtain ⟨bs, rb⟩ := rdsL h0 ha h2 wr
    have c1 := rd_can _ _ _ h1
    have c2 := rdAll_can (rd_can 8) h2
    refine SeqAt.notIn_list_reads rb ra c2.1 c1.1 ?_ k
    have := room.hu
    have h3 : min (PyData.depthAll ds) d.depth ≤ d.depth := Nat.min_le_right _ _
    omega

theorem type_beq (a c : String) : (Value.type a == Value.type c) = (a == c) := by
  by_cases h : a = c
  · subst h; simp
  · have h' : Value.type a ≠ Value.type c := fun e => h (by injection e)
    rw [beq_eq_false_iff_ne.mpr h, beq_eq_false_iff_ne.mpr h']

theorem cmpop_ok {op : CmpOp} {x y : V} {c : Bool} {wx wy : Value} (he : cmpop op x y H = some c) (hx : VR σ s.heap x wx) (hy : VR σ s.heap y wy) (wr : WR hT σ H s.heap) {r : Nat} (room : Room A r)
    (k : Q (.bool c) s) : wpAny (model prog w) A (compareOp op wx wy) Q E s := by
  unfold cmpop at he
  split at he
  · exact eqV_ok he hx hy wr room k
  · cases h1 : eqV H x y with
    | none => rw [h1] at he; cases he
    | some d => rw [h1] at he; cases he; exact neV_ok h1 hx hy wr room k
  · split at he
    · cases he; cases hx; cases hy; exact PyProof.Rows.lt_int k
    · cases he
  · split at he
    · cases he; cases hx; cases hy; exact PyProof.Rows.le_int k
    · cases he
  · split at he
    · cases he; cases hx; cases hy; exact PyProof.Rows.gt_int k
    · cases he
  · split at he
    · cases he; cases hx; cases hy; exact PyProof.Rows.ge_int k
    · cases he
  · split at he
    · cases he; cases hx; cases hy; exact PyProof.Rows.is_bool k
    · cases he; cases hx; cases hy
      exact wpAny_is_plain rfl (by rw [type_beq]; exact k)
    · cases he
  · split at he
    · cases he; cases hx; cases hy; exact PyProof.Rows.isnot_bool k
    · cases he; cases hx; cases hy
      exact PyProof.Rows.isnot_type (by rw [type_beq]; exact k)
    · cases he
  · exact inV_ok he hx hy wr room k
  · cases h1 : inV H x y with
    | none => rw [h1] at he; cases he
    | some d => rw [h1] at he; cases he; exact ninV_ok h1 hx hy wr room k
end
end Mine
end

section
set_option autoImplicit false
namespace Mine
open PySem PyProof.Rows
section
variable {prog : Program} {w : World} {A : Around} {E : Value → Shared → Prop} {s : Shared} {hT : Heap} {b : Nat} {σ : List Addr} {H : Hp} {Q : Value → Shared → Prop}

theorem subscripted_op (sl : Expr) (o i : Value) : ∃ ops, subscripted sl false o i = operate ops (getItem o i) := by
  unfold subscripted
  split
  · exact ⟨_, rfl⟩
  · rename_i h; cases h
  · exact ⟨_, rfl⟩

theorem tail_ok {value sl : Expr} {o i : Value} {T id : String} (hT' : s.TypeIs o T) (hl : typeLookup (.type T) "__getitem__" = pure (some (.builtin id))) (hg : wpAny (model prog w) A (getItem o i) Q E s) :
    wpAny (model prog w) A (subscriptTail value sl o i) Q E s :=
  let ⟨_, e⟩ := subscripted_op sl o i
  tail_any hT' hl hg e

theorem seqIndex_cases {k : Int} {n j : Nat} (h : seqIndex? k n = some j) : (0 ≤ k ∧ k < n ∧ j = k.toNat) ∨ (k < 0 ∧ -(n : Int) ≤ k ∧ j = (k + n).toNat) := by
  by_cases h0 : k < 0
  · simp only [seqIndex?, h0, if_true] at h
    split at h
    · rename_i hc
      simp only [Bool.and_eq_true, decide_eq_true_eq] at hc
      exact .inr ⟨h0, by omega, (Option.some.inj h).symm⟩
    · cases h
  · simp only [seqIndex?, h0, if_false] at h
    split at h
    · rename_i hc
      simp only [Bool.and_eq_true, decide_eq_true_eq] at hc
      exact .inl ⟨by omega, by omega, (Option.some.inj h).symm⟩
    · cases h

theorem getItem_listV {r : Addr} {arr : Array Value} {xs : List V} {k : Int} {t : Tok} {j : Nat} {v : V} (p : s.heap.PlainList r arr) (vx : VRs σ s.heap xs arr.toList) (hl : xs.length ≤ sizeLine)
    (hj : seqIndex? k xs.length = some j) (hv : xs[j]? = some v) (h : ∀ wv, VR σ s.heap v wv → Q wv s) : wpAny (model prog w) A (getItem (.ref r) (.int k t)) Q E s := by
  obtain ⟨wv, e1, e2⟩ := vx.get hv
  have hs := arr_of vx
  have e3 : arr[j]? = some wv := by rw [← Array.getElem?_toList]; exact e1
  rw [sizeLine_val] at hl
  rcases seqIndex_cases hj with ⟨h0, h1, rfl⟩ | ⟨h0, h1, rfl⟩
  · exact wpAny_getItem_list p.isList h0 (by omega) e3 (h wv e2)
  · exact wpAny_getItem_list_neg p.isList h0 (by omega) (by omega) (by rw [hs]; exact e3) (h wv e2)

theorem idx_ok {o i v : V} {wo wi : Value} {value sl : Expr} (he : idx o i H = some v) (ho : VR σ s.heap o wo) (hi : VR σ s.heap i wi) (wr : WR hT σ H s.heap) (k : Kont hT b σ v H Q s) :
    wpAny (model prog w) A (subscriptTail value sl wo wi) Q E s := by
  unfold idx at he
  split at he
  · rename_i z q
    cases hi
    cases ho with | str _ t hl =>
    rw [sizeLine_val] at hl
    cases h1 : (seqIndex? q z.length).bind (z.cps[·]?) with
    | none => rw [h1] at he; cases he
    | some c =>
      rw [h1] at he; cases he
      obtain ⟨j, hj, _⟩ := Option.bind_eq_some_iff.mp h1
      refine tail_ok (typeIs_str s _ _) slot_str_getitem.lookup (PyProof.Rows.getItem_str ?_ h1 (k.same wr (.str _ _ (by show (1 : Nat) ≤ _; decide)) _))
      rcases seqIndex_cases hj with ⟨h0, h2, _⟩ | ⟨h0, h2, _⟩ <;> (simp; omega)
  · rename_i vs q
    cases hi
    cases ho with | tup h1 h2 h3 h4 hl =>
    rw [sizeLine_val] at hl
    obtain ⟨j, hj, hv⟩ := Option.bind_eq_some_iff.mp he
    obtain ⟨wv, e1, e2⟩ := h4.get hv
    have hs := arr_of h4
    have ht : IsTup s.heap _ _ := ⟨_, h1, h2, _, h3⟩
    refine tail_ok ht.typeIs slot_tuple_getitem.lookup (PyProof.Rows.getItem_tuple ht ?_ ?_ (by rw [hs]; exact hj) (by rw [← Array.getElem?_toList]; exact e1) (k.same' wr e2))
    · rcases seqIndex_cases hj with ⟨h0, h2, _⟩ | ⟨h0, h2, _⟩ <;> omega
    · rcases seqIndex_cases hj with ⟨h0, h2, _⟩ | ⟨h0, h2, _⟩ <;> omega
  · rename_i a q
    cases hi
    cases ho with | ref ha =>
    cases h0 : H[a]? with
    | none => rw [h0] at he; cases he
    | some xs =>
    rw [h0, Option.bind_some] at he
    obtain ⟨j, hj, hv⟩ := Option.bind_eq_some_iff.mp he
    obtain ⟨arr, p, vx, hl⟩ := wr.obj a xs _ h0 ha
    exact tail_ok p.isList.typeIs slot_list_getitem.lookup (getItem_listV p vx hl hj hv fun wv e => k.same' wr e)
  · cases he

/-! slices -/
theorem partV_ok {v : V} {lo : Option Int} {wv : Value} {h : Heap} (he : partV v = some lo) (hv : VR σ h v wv) : IsPart wv lo ∧ ∃ p : Option (Int × Tok), wv = partValue p ∧ p.map (·.1) = lo := by
  cases v <;> simp [partV] at he
  · subst he; cases hv; exact ⟨.none, none, rfl, rfl⟩
  · subst he; cases hv with | int _ t => exact ⟨.int _ t, some (_, t), rfl, rfl⟩

theorem strIdx_plain (lo hi : Option Int) (n : Nat) : Builtin.Str.strSliceIndices lo hi 1 n = (List.range (hi.elim n (clipAt n) - lo.elim 0 (clipAt n))).map (lo.elim 0 (clipAt n) + ·) := by
  have e : Builtin.Str.strSliceIndices lo hi 1 n = sliceRange (sliceBounds lo hi none n).1 (sliceBounds lo hi none n).2.1 1 := by
    cases lo <;> cases hi <;> rfl
  rw [e, sliceBounds_plain, sliceRange_one]

theorem cutL_length {α : Type} (xs : List α) (lo hi : Option Int) : (cutL xs lo hi).length ≤ xs.length := by
  unfold cutL
  rw [List.length_take, List.length_drop]; omega

theorem clipAt_le (n : Nat) (i : Int) : clipAt n i ≤ n := by
  unfold clipAt; omega

theorem pick_str (x : Str) (lo hi : Option Int) : (Builtin.Str.strSliceIndices lo hi 1 x.length).filterMap (x.cps[·]?) = cutL x.cps.toList lo hi := by
  rw [strIdx_plain, pick_run]
  unfold cutL
  simp [Str.length]
theorem str_ext {x y : Str} (h : x.cps = y.cps) : x = y := by cases x; cases y; cases h; rfl
theorem pick_whole (x : Str) (lo hi : Option Int) (h : (Builtin.Str.strSliceIndices lo hi 1 x.length).length = x.length) : cutL x.cps.toList lo hi = x.cps.toList := by
  rw [strIdx_plain] at h
  simp only [List.length_map, List.length_range] at h
  unfold cutL
  have e : x.cps.toList.length = x.length := by simp [Str.length]
  rw [e]
  have h1 : lo.elim 0 (clipAt x.length) ≤ x.length := by cases lo <;> simp [clipAt_le]
  have h2 : hi.elim x.length (clipAt x.length) ≤ x.length := by cases hi <;> simp [clipAt_le]
  rw [h]
  by_cases h0 : x.length = 0
  · have : x.cps.toList = [] := List.length_eq_zero_iff.mp (by rw [e, h0])
    rw [this]; simp
  · have h3 : lo.elim 0 (clipAt x.length) = 0 := by omega
    rw [h3, List.drop_zero, List.take_of_length_le (by rw [e]; exact Nat.le_refl _)]

theorem str_toArray (x : Str) : (⟨x.cps.toList.toArray⟩ : Str) = x := by cases x; rfl

theorem slice_str {x : Str} {t : Tok} {l u : Option (Int × Tok)} {a : Addr} (hs : s.heap.IsSlice a l u none) (hx : x.length ≤ sizeLine)
    (h : ∀ t' tk, Q (.str ⟨(cutL x.cps.toList (l.map (·.1)) (u.map (·.1))).toArray⟩ t') { s with toks := tk }) : wpAny (model prog w) A (getItem (.str x t) (.ref a)) Q E s := by
  refine wpAny_getItem_str_slice hs rfl ?_
  have hp := pick_str x (l.map (·.1)) (u.map (·.1))
  have hw := pick_whole x (l.map (·.1)) (u.map (·.1))
  unfold sliceMade
  have e : slicePicked x l u none = Builtin.Str.strSliceIndices (l.map (·.1)) (u.map (·.1)) 1 x.length := rfl
  rw [e]
  split
  · rename_i hc
    simp at hc
    have h2 := h t s.toks
    rw [hw hc, str_toArray] at h2
    exact h2
  · have h2 := h s.toks (s.toks + 1)
    rw [hp]
    refine ⟨?_, h2⟩
    show (cutL x.cps.toList _ _).toArray.size ≤ _
    rw [List.size_toArray]
    exact Nat.le_trans (cutL_length _ _ _) (by simpa [Str.length] using hx)

/-- a slice's step; the slice object lies at the heap's end -/
theorem slice_ok {o l u st v : V} {wo wl wu wst : Value} {H' : Hp} {value sl : Expr} (he : slice o l u st H = some (v, H')) (ho : VR σ s.heap o wo) (hl : VR σ s.heap l wl) (hu : VR σ s.heap u wu) (hst : VR σ s.heap st wst) (wr : WR hT σ H s.heap)
    (k : Kont hT b σ v H' Q s) : wpAny (model prog w) A (subscriptTail value sl wo (.ref s.heap.objs.size)) Q E { s with heap := s.heap.push { cls := .type "slice", data := .fields #[wl, wu, wst] } } := by
  unfold slice at he
  obtain ⟨lo, h1, he1⟩ := Option.bind_eq_some_iff.mp he
  clear he
  obtain ⟨hi, h2, he⟩ := Option.bind_eq_some_iff.mp he1
  clear he1
  obtain ⟨pl, ql, el, rfl⟩ := partV_ok h1 hl
  obtain ⟨pu, qu, eu, rfl⟩ := partV_ok h2 hu
  have wr' := wr.push { cls := .type "slice", data := .fields #[wl, wu, wst] }
  have ex := Ext.push [] b σ s.heap { cls := .type "slice", data := .fields #[wl, wu, wst] }
  have hso := Heap.IsSliceOf.new s.heap wl wu wst
  split at he
  · cases hst
    split at he
    · rename_i a
      cases ho with | ref ha =>
      cases h0 : H[a]? with
      | none => rw [h0] at he; cases he
      | some xs =>
      rw [h0, Option.bind_some] at he
      cases he
      obtain ⟨arr, p, vx, hz⟩ := wr'.obj a xs _ h0 ha
      have hs := arr_of vx
      refine tail_ok p.isList.typeIs slot_list_getitem.lookup (wpAny_getItem_list_slice p.isList hso pl pu .none (by simp) ?_ (by rw [hs]; exact hz))
      have hv : VRs σ (s.heap.push { cls := .type "slice", data := .fields #[wl, wu, .none] }) (cutL xs (ql.map (·.1)) (qu.map (·.1))) (slicePick arr (ql.map (·.1)) (qu.map (·.1)) none).toList := by
        rw [slicePick_plain, hs]
        exact (vx.drop _).take _
      refine k _ _ s.toks _ (wr'.pushL 0 hv (Nat.le_trans (cutL_length _ _ _) hz)) (.ref (by rw [← wr.len]; simp)) (ex.trans (Ext.pushL ..))
    · cases he
  · cases he
end
end Mine
end

section
set_option autoImplicit false
set_option maxRecDepth 100000
namespace Mine
open PySem PyProof.Rows
section
variable {prog : Program} {w : World} {A : Around} {E : Value → Shared → Prop} {s : Shared} {hT : Heap} {b : Nat} {σ : List Addr} {H : Hp} {Q : Value → Shared → Prop}

/-- what a built-in name stands for -/
noncomputable def bval (f : Str) : Option Value :=
  if f = "len" then some (.builtin "len") else if f = "ord" then some (.builtin "ord") else if f = "chr" then some (.builtin "chr")
  else if f = "isinstance" then some (.builtin "isinstance") else if f = "type" then some (.type "type") else if f = "sorted" then some (.builtin "sorted")
  else if f = "any" then some (.builtin "any") else if f = "range" then some (.type "range") else if f = "list" then some (.type "list")
  else if f = "tuple" then some (.type "tuple") else if f = "str" then some (.type "str") else if f = "bool" then some (.type "bool") else none

theorem isi_ok {v : V} {t u : String} {wv : Value} (ht : t = "tuple" ∨ t = "str" ∨ t = "bool") (hu : typeV H v = some u) (hv : VR σ s.heap v wv) (wr : WR hT σ H s.heap) (k : ∀ tk, Q (.bool (u == t)) { s with toks := tk }) :
    wpAny (model prog w) A (call (.builtin "isinstance") [wv, .type t]) Q E s := by
  have k' : Q (.bool (u == t)) s := k s.toks
  cases v <;> simp [typeV] at hu <;> subst hu
  · cases hv; rcases ht with rfl | rfl | rfl
    · exact IsiPair.NoneType_tuple (k _)
    · exact IsiPair.NoneType_str (k _)
    · exact IsiPair.NoneType_bool (k _)
  · cases hv; rcases ht with rfl | rfl | rfl
    · exact IsiPair.bool_tuple (k _)
    · exact IsiPair.bool_str (k _)
    · exact IsiPair.bool_bool k'
  · cases hv; rcases ht with rfl | rfl | rfl
    · exact IsiPair.int_tuple (k _)
    · exact IsiPair.int_str (k _)
    · exact IsiPair.int_bool (k _)
  · cases hv; rcases ht with rfl | rfl | rfl
    · exact IsiPair.str_tuple (k _)
    · exact IsiPair.str_str k'
    · exact IsiPair.str_bool (k _)
  · cases hv with | tup h1 h2 h3 h4 h5 =>
    rcases ht with rfl | rfl | rfl
    · exact IsiPair.tuple_tuple h1 h2 k'
    · exact IsiPair.tuple_str h1 h2 (k _)
    · exact IsiPair.tuple_bool h1 h2 (k _)
  · cases hv with | ref ha =>
    obtain ⟨arr, n, e⟩ := wr.lists (List.mem_of_getElem? ha)
    rcases ht with rfl | rfl | rfl
    · exact IsiPair.list_tuple e rfl (k _)
    · exact IsiPair.list_str e rfl (k _)
    · exact IsiPair.list_bool e rfl (k _)

theorem strs_are {h : Heap} : ∀ {xs : List V} {ss : List Str} {ws : List Value}, strsOf xs = some ss → VRs σ h xs ws → ∃ l : List (Str × Tok), ws = strValues l ∧ l.map (·.1) = ss
  | [], _, _, e, .nil => by simp [strsOf] at e; subst e; exact ⟨[], rfl, rfl⟩
  | x :: r, ss, _, e, .cons hx hr => by
    cases x <;> simp [strsOf] at e
    obtain ⟨q, e1, rfl⟩ := e
    cases hx with | str _ t _ =>
    obtain ⟨l, h1, h2⟩ := strs_are e1 hr
    exact ⟨(_, t) :: l, by rw [h1]; rfl, by simp [h2]⟩
theorem join_ok {a : Nat} {r : Addr} {x : Str} {t : Tok} {xs : List V} {ss : List Str} (ha : σ[a]? = some r) (h0 : H[a]? = some xs) (hi : strsOf xs = some ss) (hl : JoinOk x ss = true) (wr : WR hT σ H s.heap)
    (k : Kont hT b σ (.str (Txt.join x ss)) H Q s) : wpAny (model prog w) A (call (.builtin "str.join") [.str x t, .ref r]) Q E s := by
  obtain ⟨arr, p, vx, _⟩ := wr.obj a xs _ h0 ha
  obtain ⟨l, h1, h2⟩ := strs_are hi vx
  refine SC.join (l := l) (by rw [← h1]; simpa using p.isList) h2 hl fun t' tk => ?_
  exact k.same wr (.str _ _ (joinOk_length hl)) tk

theorem list_one {x : V} {ws : List Value} {h : Heap} (h1 : VRs σ h [x] ws) : ∃ w, ws = [w] ∧ VR σ h x w := by
  cases h1 with | cons a r => cases r; exact ⟨_, rfl, a⟩

theorem callB_ok {f : Str} {as : List V} {ws : List Value} {fv : Value} {v : V} {H' : Hp} (he : callB f as H = some (v, H')) (hf : bval f = some fv) (hh : A.handled = none) (hs : VRs σ s.heap as ws) (wr : WR hT σ H s.heap)
    (k : Kont hT b σ v H' Q s) : wpAny (model prog w) A (call fv ws) Q E s := by
  unfold callB at he
  unfold bval at hf
  split at he
  · rename_i h1
    rw [if_pos h1] at hf; cases hf
    split at he
    · cases he
      obtain ⟨wv, rfl, hv⟩ := list_one hs
      cases hv with | str _ t hl =>
      rw [sizeLine_val] at hl
      exact PyProof.Rows.len_str (by omega) (k.same wr (.int _ _) _)
    · cases he
      obtain ⟨wv, rfl, hv⟩ := list_one hs
      cases hv with | tup a1 a2 a3 a4 a5 =>
      rw [sizeLine_val] at a5
      have ht : IsTup s.heap _ _ := ⟨_, a1, a2, _, a3⟩
      have hz := arr_of a4
      exact PyProof.Rows.len_tuple ht (by omega) (by rw [hz]; exact k.same wr (.int _ _) _)
    · rename_i a
      obtain ⟨wv, rfl, hv⟩ := list_one hs
      cases hv with | ref ha =>
      cases h0 : H[a]? with
      | none => rw [h0] at he; cases he
      | some xs =>
      rw [h0] at he; cases he
      obtain ⟨arr, p, vx, hl⟩ := wr.obj a xs _ h0 ha
      rw [sizeLine_val] at hl
      have hz := arr_of vx
      exact Calls.call_len_list p.isList (by omega) (by rw [hz]; exact k.same wr (.int _ _) _)
    · cases he
  rename_i n1
  rw [if_neg n1] at hf
  split at he
  · rename_i h1
    rw [if_pos h1] at hf; cases hf
    cases he
  rename_i n2
  rw [if_neg n2] at hf
  split at he
  · rename_i h1
    rw [if_pos h1] at hf; cases hf
    split at he
    · split at he
      · rename_i hc
        cases he
        obtain ⟨wv, rfl, hv⟩ := list_one hs
        cases hv
        exact PyProof.Rows.chr_of_range hc.1 (by omega) (k.same wr (.str _ _ (by show (1 : Nat) ≤ _; decide)) _)
      · cases he
    · cases he
  rename_i n3
  rw [if_neg n3] at hf
  split at he
  · rename_i h1
    rw [if_pos h1] at hf; cases hf
    split at he
    · rename_i x t
      split at he
      · rename_i hc
        cases hu : typeV H x with
        | none => rw [hu] at he; cases he
        | some u =>
        rw [hu] at he; cases he
        cases hs with | cons hx r =>
        cases r with | cons ht r =>
        cases r
        cases ht
        exact isi_ok hc hu hx wr fun tk => k.same wr (.bool _) tk
      · cases he
    · cases he
  rename_i n4
  rw [if_neg n4] at hf
  split at he
  · rename_i h1
    rw [if_pos h1] at hf; cases hf
    cases he
  rename_i n5
  rw [if_neg n5] at hf
  split at he
  · rename_i h1
    rw [if_pos h1] at hf; cases hf
    cases he
  rename_i n6
  rw [if_neg n6] at hf
  split at he
  · rename_i h1
    rw [if_pos h1] at hf; cases hf
    cases he
  · cases he

/-! methods -/
theorem PlainList.bare {h : Heap} {r : Addr} {arr : Array Value} (p : h.PlainList r arr) : ∃ o, h.get? r = some o ∧ o.cls = .type "list" ∧ o.dict = none := let ⟨_, e⟩ := p; ⟨_, e, rfl, rfl⟩

/-- the built-in behind a method -/
noncomputable def methId (o : V) (m : Str) : Option String :=
  match o with
  | .ref _ => if m = "append" then some "list.append" else if m = "pop" then some "list.pop" else none
  | .str _ => if m = "join" then some "str.join" else if m = "rfind" then some "str.rfind" else if m = "count" then some "str.count" else none
  | _ => none

theorem callM_id {m : Str} {o : V} {as : List V} {p : V × Hp} (he : callM b m o as H = some p) : ∃ id, methId o m = some id := by
  unfold callM at he
  unfold methId
  split at he
  · split at he
    · rename_i h1; exact ⟨_, by (try dsimp only); rw [if_pos h1]⟩
    · split at he
      · rename_i h2 h1; exact ⟨_, by (try dsimp only); rw [if_neg h2, if_pos h1]⟩
      · cases he
  · split at he
    · rename_i h1; exact ⟨_, by (try dsimp only); rw [if_pos h1]⟩
    · split at he
      · rename_i h2 h1; exact ⟨_, by (try dsimp only); rw [if_neg h2, if_pos h1]⟩
      · split at he
        · rename_i h3 h2 h1; exact ⟨_, by (try dsimp only); rw [if_neg h3, if_neg h2, if_pos h1]⟩
        · cases he
  · cases he

theorem getM_ok {m : Str} {o : V} {wo : Value} {id : String} {pl : Sem Bool} {R : Value × List Value → Shared → Prop} (hid : methId o m = some id) (ho : VR σ s.heap o wo) (wr : WR hT σ H s.heap) (hR : R (.builtin id, [wo]) s) :
    wpAny (model prog w) A (getMethod wo m pl) R E s := by
  unfold methId at hid
  split at hid
  · cases ho with | ref ha =>
    obtain ⟨arr, p⟩ := wr.lists (List.mem_of_getElem? ha)
    obtain ⟨o, e1, e2, e3⟩ := PlainList.bare p
    split at hid
    · rename_i h1; subst h1; cases hid
      exact Calls.getMethod_list_append e1 e2 e3 hR
    · split at hid
      · rename_i h1; subst h1; cases hid
        exact getMethod_list_of PySem.F.slot_list_pop PySem.F.type_list_pop p.isList (by exact ⟨o, e1, e3⟩) hR
      · cases hid
  · cases ho with | str _ t hl =>
    split at hid
    · rename_i h1; subst h1; cases hid; exact GM.join hR
    · split at hid
      · rename_i h1; subst h1; cases hid; exact GM.rfind hR
      · split at hid
        · rename_i h1; subst h1; cases hid; exact GM.count hR
        · cases hid
  · cases hid

theorem dropLast_erase {α : Type} : ∀ (xs : List α), xs.dropLast = xs.eraseIdx (xs.length - 1)
  | [] => rfl
  | [_] => rfl
  | x :: y :: r => by
    rw [List.dropLast_cons_cons]
    show x :: (y :: r).dropLast = (x :: y :: r).eraseIdx (r.length + 1)
    rw [List.eraseIdx_cons_succ, dropLast_erase (y :: r)]
    rfl
theorem mem_drop_of' {a : Nat} {r : Addr} (ha : σ[a]? = some r) (hb : b ≤ a) : r ∈ σ.drop b := by
  rw [List.mem_iff_getElem?]
  exact ⟨a - b, by rw [List.getElem?_drop, show b + (a - b) = a by omega]; exact ha⟩

theorem callM_ok {m : Str} {o v : V} {as : List V} {wo : Value} {H' : Hp} {id : String} {ws : List Value} (he : callM b m o as H = some (v, H')) (hid : methId o m = some id) (ho : VR σ s.heap o wo) (wr : WR hT σ H s.heap) (habove : ∀ r ∈ σ.drop b, hT.get? r = none)
    (hs : VRs σ s.heap as ws) (k : Kont hT b σ v H' Q s) : wpAny (model prog w) A (call (.builtin id) (wo :: ws)) Q E s := by
  unfold callM at he
  unfold methId at hid
  split at he
  · rename_i a
    cases ho with | ref ha =>
    rename_i r
    dsimp only at hid
    split at he
    · rename_i h1
      rw [if_pos h1] at hid; cases hid
      cases he
    · rename_i h2
      rw [if_neg h2] at hid
      split at he
      · rename_i h1
        rw [if_pos h1] at hid; cases hid
        cases he
      · cases he
  · rename_i z
    cases ho with | str _ t hl =>
    dsimp only at hid
    split at he
    · rename_i h1
      rw [if_pos h1] at hid; cases hid
      split at he
      · rename_i a
        obtain ⟨xs, h0, he1⟩ := Option.bind_eq_some_iff.mp he
        obtain ⟨ss, h2, he2⟩ := Option.bind_eq_some_iff.mp he1
        split at he2
        · rename_i hc
          cases he2
          obtain ⟨wx, rfl, hx⟩ := list_one hs
          cases hx with | ref ha =>
          exact join_ok ha h0 h2 hc wr k
        · cases he2
      · cases he
    · rename_i h2
      rw [if_neg h2] at hid
      split at he
      · rename_i h1
        rw [if_pos h1] at hid; cases hid
        cases he
      · rename_i h3
        rw [if_neg h3] at hid
        split at he
        · rename_i h1
          rw [if_pos h1] at hid; cases hid
          cases he
        · cases he
  · cases he
end
end Mine
end

section
set_option autoImplicit false
set_option maxRecDepth 100000
namespace Mine
open PySem PyProof.Rows
section
variable {prog : Program} {w : World} {A : Around} {E : Value → Shared → Prop} {s : Shared} {hT : Heap} {b : Nat} {σ : List Addr} {H : Hp}

theorem mem_drop_of {a : Nat} {r : Addr} (ha : σ[a]? = some r) (hb : b ≤ a) : r ∈ σ.drop b := by
  rw [List.mem_iff_getElem?]
  exact ⟨a - b, by rw [List.getElem?_drop, show b + (a - b) = a by omega]; exact ha⟩

end
end Mine
end

section
set_option autoImplicit false
set_option maxRecDepth 100000
namespace Mine
open PySem PyProof.Rows

/-- a token count that is not nought -/
structure Tok1 (z : Nat) where
  n : Nat
  pos : z ≤ n
/-- what an expression hands on -/
noncomputable def KontT (z : Nat) (hT : Heap) (b : Nat) (σ : List Addr) (v : V) (H' : Hp) (Q : Value → Shared → Prop) (s : Shared) : Prop :=
  ∀ w h' (tk : Tok1 z) σ', WR hT σ' H' h' → VR σ' h' v w → Ext [] b σ s.heap σ' h' → Q w { s with heap := h', toks := tk.n }
theorem lift {z : Nat} {α : Type} {M : Model} {A : Around} {t : Sem α} {Q : α → Shared → Prop} {E : Value → Shared → Prop} {s : Shared} (ht : z ≤ s.toks)
    (h : wpAny M A t (fun a s' => z ≤ s'.toks → Q a s') (fun e s' => z ≤ s'.toks → E e s') s) : wpAny M A t Q E s := wpAny_with_toks ht h
theorem KontT.toK {z : Nat} {hT : Heap} {b : Nat} {σ : List Addr} {v : V} {H' : Hp} {Q : Value → Shared → Prop} {s : Shared} (k : KontT z hT b σ v H' Q s) : Kont hT b σ v H' (fun a s' => z ≤ s'.toks → Q a s') s :=
  fun w h' tk σ' wr hv ex ht => k w h' ⟨tk, ht⟩ σ' wr hv ex
theorem KontT.same' {z : Nat} {hT : Heap} {b : Nat} {σ : List Addr} {v : V} {H : Hp} {Q : Value → Shared → Prop} {s : Shared} {wv : Value} (k : KontT z hT b σ v H Q s) (wr : WR hT σ H s.heap) (hv : VR σ s.heap v wv) (ht : z ≤ s.toks) : Q wv s :=
  k wv s.heap ⟨s.toks, ht⟩ σ wr hv (Ext.refl ..)

/-- a tree that begins with a new token ends with one token at least -/
theorem fresh_toks {α : Type} {M : Model} {A : Around} {t : Sem α} {k : Tok → Sem α} {Q : α → Shared → Prop} {E : Value → Shared → Prop} {s : Shared} (e : t = Sem.fresh k)
    (h : wpAny M A t (fun a s' => 1 ≤ s'.toks → Q a s') (fun e s' => 1 ≤ s'.toks → E e s') s) : wpAny M A t Q E s := by
  subst e
  have h2 : wpAny M A (Sem.fresh k) (fun a s' => 1 ≤ s'.toks ∧ (1 ≤ s'.toks → Q a s')) (fun e s' => 1 ≤ s'.toks ∧ (1 ≤ s'.toks → E e s')) s := fun Γ p hΓ =>
    Sem.wp_toks M Γ 1 (k s.toks) _ _ p { s with toks := s.toks + 1 } (Nat.le_add_left 1 s.toks) (h Γ p hΓ)
  exact wpAny_mono h2 (fun _ _ x => x.2 x.1) (fun _ _ x => x.2 x.1)

/-- a def of the text: what the small reading gives for it, its call gives -/
noncomputable def FnSound (z : Nat) (prog : Program) (w : World) (hT : Heap) (σ₀ : List Addr) (n : Nat) (fn : List V → Hp → Option (V × Hp)) (fa : Addr) : Prop :=
  ∀ args H v H', fn args H = some (v, H') → ∀ (A : Around) (σ : List Addr) (s : Shared) (Q : Value → Shared → Prop) (E : Value → Shared → Prop) (ws : List Value),
    Room A n → WR hT σ H s.heap → σ₀ <+: σ → VRs σ s.heap args ws → KontT z hT H.length σ v H' Q s → z ≤ s.toks → wpAny (model prog w) A (call (.ref fa) ws) Q E s

structure Base (prog : Program) (w : World) (hT : Heap) (σ₀ : List Addr) (n : Nat) (g : Glob) : Prop where
  gns : ∃ mg, hT.Ns mainGlobals mg ∧ (∀ x v, g.val x = some v → ∃ wv, mg x = some wv ∧ VR σ₀ hT v wv) ∧ (∀ x fv, g.val x = none → g.isFn x = false → bval x = some fv → mg x = none) ∧
    (∀ x, g.isFn x = true → ∃ fa o fd, mg x = some (.ref fa) ∧ hT.get? fa = some o ∧ o.data = .func fd ∧ FnSound (zOf x) prog w hT σ₀ n (g.fn x) fa) ∧
    True
  bns : ∃ mb, hT.Ns builtinsNs mb ∧ ∀ x fv, bval x = some fv → mb x = some fv

section
variable (z : Nat) (prog : Program) (w : World) (hT : Heap) (σ₀ : List Addr) (b n : Nat)

structure RecOK (rec : Rec) : Prop where
  ok : ∀ e κ ρ H v H', rec e κ ρ H = some (v, H') → ∀ (A : Around) (ω : Str → Bool) (W : List Addr) (env : Env) (σ : List Addr) (s : Shared) (Q : Value → Shared → Prop) (E : Value → Shared → Prop),
  Room A n → Good hT σ₀ κ ω ρ W env b σ H s.heap → KontT z hT b σ v H' Q s → (ht : z ≤ s.toks := by first | assumption | exact Tok1.pos _ | exact Nat.zero_le _) → wpAny (model prog w) A (eval e env) Q E s

noncomputable def KontB (σ : List Addr) (t : Bool) (H' : Hp) (Q : Bool → Shared → Prop) (s : Shared) : Prop :=
  ∀ h' (tk : Tok1 z) σ', WR hT σ' H' h' → Ext [] b σ s.heap σ' h' → Q t { s with heap := h', toks := tk.n }
structure RecTOK (rec : RecT) : Prop where
  ok : ∀ e κ ρ H t H', rec e κ ρ H = some (t, H') → ∀ (A : Around) (ω : Str → Bool) (W : List Addr) (env : Env) (σ : List Addr) (s : Shared) (Q : Bool → Shared → Prop) (E : Value → Shared → Prop),
  Room A n → Good hT σ₀ κ ω ρ W env b σ H s.heap → KontB z hT b σ t H' Q s → (ht : z ≤ s.toks := by first | assumption | exact Tok1.pos _ | exact Nat.zero_le _) → wpAny (model prog w) A (isTrue e env (eval e env)) Q E s

noncomputable def KontL (σ : List Addr) (vs : List V) (H' : Hp) (Q : List Value → Shared → Prop) (s : Shared) : Prop :=
  ∀ ws h' (tk : Tok1 z) σ', WR hT σ' H' h' → VRs σ' h' vs ws → Ext [] b σ s.heap σ' h' → Q ws { s with heap := h', toks := tk.n }
end

section
variable {z : Nat} {prog : Program} {w : World} {hT : Heap} {σ₀ : List Addr} {b n : Nat} {g : Glob} {A : Around} {E : Value → Shared → Prop} {s : Shared} {σ : List Addr} {H : Hp} {κ : Kap} {ω : Str → Bool} {ρ : Rho} {W : List Addr} {env : Env}

theorem KontT.after {σ' : List Addr} {v : V} {H' : Hp} {Q : Value → Shared → Prop} {h' : Heap} {tk : Tok1 z} (k : KontT z hT b σ v H' Q s) (e : Ext [] b σ s.heap σ' h') : KontT z hT b σ' v H' Q { s with heap := h', toks := tk.n } :=
  fun wv h'' tk' σ'' wr hv ex => k wv h'' tk' σ'' wr hv (e.trans ex)
theorem KontB.after {σ' : List Addr} {t : Bool} {H' : Hp} {Q : Bool → Shared → Prop} {h' : Heap} {tk : Tok1 z} (k : KontB z hT b σ t H' Q s) (e : Ext [] b σ s.heap σ' h') : KontB z hT b σ' t H' Q { s with heap := h', toks := tk.n } :=
  fun h'' tk' σ'' wr ex => k h'' tk' σ'' wr (e.trans ex)
theorem KontL.after {σ' : List Addr} {vs : List V} {H' : Hp} {Q : List Value → Shared → Prop} {h' : Heap} {tk : Tok1 z} (k : KontL z hT b σ vs H' Q s) (e : Ext [] b σ s.heap σ' h') : KontL z hT b σ' vs H' Q { s with heap := h', toks := tk.n } :=
  fun ws h'' tk' σ'' wr hv ex => k ws h'' tk' σ'' wr hv (e.trans ex)

/-- a value outlives an expression's step -/
theorem VR.after {v : V} {wv : Value} {σ' : List Addr} {h h' : Heap} (x : VR σ h v wv) (wr : WR hT σ H h) (e : Ext [] b σ h σ' h') : VR σ' h' v wv := x.mono e.prefix (e.tups wr)
theorem VRs.after {v : List V} {wv : List Value} {σ' : List Addr} {h h' : Heap} (x : VRs σ h v wv) (wr : WR hT σ H h) (e : Ext [] b σ h σ' h') : VRs σ' h' v wv := x.mono e.prefix (e.tups wr)

theorem bval_of_type {x : Str} {v : V} (h : builtinType x = some v) : ∃ nm, v = .type nm ∧ bval x = some (.type nm) := by
  unfold builtinType at h
  split at h
  · rename_i e; cases h; subst e; exact ⟨_, rfl, by decide +kernel⟩
  · split at h
    · rename_i e; cases h; subst e; exact ⟨_, rfl, by decide +kernel⟩
    · split at h
      · rename_i e; cases h; subst e; exact ⟨_, rfl, by decide +kernel⟩
      · split at h
        · rename_i e; cases h; subst e; exact ⟨_, rfl, by decide +kernel⟩
        · cases h

theorem global_ok {x : Str} {pos : Pos} {Q : Value → Shared → Prop} (B : Base prog w hT σ₀ n g) (G : Good hT σ₀ κ ω ρ W env b σ H s.heap) (hk : κ x = some .globalImplicit) (hd : x ≠ "__debug__")
    (hv : (∃ v, g.val x = some v ∧ ∀ w', VR σ s.heap v w' → Q w' s) ∨ (g.val x = none ∧ g.isFn x = false ∧ ∃ fv, bval x = some fv ∧ Q fv s)) : wpAny (model prog w) A (eval (.Name x pos) env) Q E s := by
  have hk' : env.kindOf x = some .globalImplicit := by rw [G.env.kind]; exact hk
  have hd' : (x == ("__debug__" : Str)) = false := by simpa using hd
  refine Calls.Name_function_global G.env.fn hk' ?_ hd'
  obtain ⟨mg, hg, h1, h2, _⟩ := B.gns
  have hg' : s.heap.Ns env.globals mg := by rw [G.env.glob]; exact hg.keeps G.wr.top
  rcases hv with ⟨v, e1, q⟩ | ⟨e1, e2, fv, e3, q⟩
  · obtain ⟨wv, e3, e4⟩ := h1 x v e1
    exact Calls.loadGlobal_global hg' e3 (q wv (e4.mono G.tab (Tups.keeps G.wr.top)))
  · obtain ⟨mb, hb, h3⟩ := B.bns
    have hb' : s.heap.Ns env.builtins mb := by rw [G.env.blt]; exact hb.keeps G.wr.top
    exact Calls.loadGlobal_builtin hg' (h2 x fv e1 e2 e3) hb' (h3 x fv e3) q

theorem name_ok {x : Str} {pos : Pos} {v : V} {Q : Value → Shared → Prop} (he : nameV g κ ρ x = some v) (B : Base prog w hT σ₀ n g) (G : Good hT σ₀ κ ω ρ W env b σ H s.heap) (k : KontT z hT b σ v H Q s) (ht : z ≤ s.toks := by first | assumption | exact Tok1.pos _ | exact Nat.zero_le _) :
    wpAny (model prog w) A (eval (.Name x pos) env) Q E s := by
  unfold nameV at he
  split at he
  · cases he
  rename_i hn
  simp only [not_or] at hn
  have hd' : (x == ("__debug__" : Str)) = false := by simpa using hn.1
  have hc' : (x == ("__classdict__" : Str)) = false := by simpa using hn.2
  split at he
  · rename_i hk
    obtain ⟨m, hm, hv⟩ := G.env.ns
    obtain ⟨wv, e1, e2⟩ := hv x v hk he
    exact wpAny_Name (wpAny_loadName_local G.env.fn (by rw [G.env.kind]; exact hk) hm e1 (k.same' G.wr e2 ht)) hd'
  · rename_i hk
    obtain ⟨c, v₀, e1, e2, e3⟩ := G.env.cell x (.inl hk)
    obtain ⟨wv, rfl, e5⟩ := e3 v he
    exact wpAny_Name (wpAny_loadName_cell G.env.fn (by rw [G.env.kind]; exact hk) e1 e2 (k.same' G.wr e5 ht)) hd'
  · rename_i hk
    obtain ⟨c, v₀, e1, e2, e3⟩ := G.env.cell x (.inr hk)
    obtain ⟨wv, rfl, e5⟩ := e3 v he
    exact wpAny_Name (wpAny_loadName_free G.env.fn (by rw [G.env.kind]; exact hk) e1 e2 (k.same' G.wr e5 ht) hc') hd'
  · rename_i hk
    split at he
    · rename_i u hu
      cases he
      exact global_ok B G hk hn.1 (.inl ⟨_, hu, fun w' q => k.same' G.wr q ht⟩)
    · rename_i hu
      split at he
      · cases he
      · rename_i hf
        obtain ⟨nm, rfl, e⟩ := bval_of_type he
        exact global_ok B G hk hn.1 (.inr ⟨hu, by simpa using hf, _, e, k.same' G.wr (.type nm) ht⟩)
  · cases he

theorem evs_ok {rec : Rec} (R : RecOK z prog w hT σ₀ b n rec) (room : Room A n) : ∀ {es : List Expr} {vs : List V} {H H' : Hp} {σ : List Addr} {s : Shared} {pos : Pos} {Q : List Value → Shared → Prop}, evs rec κ ρ es H = some (vs, H') →
    Good hT σ₀ κ ω ρ W env b σ H s.heap → KontL z hT b σ vs H' Q s → (ht : z ≤ s.toks := by first | assumption | exact Tok1.pos _ | exact Nat.zero_le _) → wpAny (model prog w) A (spliced (backTo pos (starEach es env))) Q E s
  | [], vs, H, H', σ, s, pos, Q, he, G, k, ht => by
    simp [evs] at he
    obtain ⟨rfl, rfl⟩ := he
    exact Calls.spliced_nil (k [] s.heap ⟨s.toks, ht⟩ σ G.wr .nil (Ext.refl ..))
  | e :: r, vs, H, H', σ, s, pos, Q, he, G, k, ht => by
    unfold evs at he
    split at he
    · rename_i hst
      obtain ⟨p, h1, he1⟩ := Option.bind_eq_some_iff.mp he
      obtain ⟨q, h2, he2⟩ := Option.map_eq_some_iff.mp he1
      cases he2
      have hs : starEach (e :: r) env = (false, eval e env) :: starEach r env := by
        cases e <;> first | rfl | (simp [notStar] at hst)
      rw [hs]
      show wpAny _ _ (spliced ((false, eval e env) :: backTo pos (starEach r env))) _ _ _
      refine Calls.spliced_cons (R.ok e κ ρ H p.1 p.2 h1 A ω W env σ s _ E room G fun w1 h1' tk1 σ1 wr1 v1 e1 => ?_)
      refine evs_ok R room h2 (G.step wr1 e1) fun ws h2' tk2 σ2 wr2 v2 e2 => ?_
      exact k _ h2' tk2 σ2 wr2 (.cons (v1.after wr1 e2) v2) (e1.trans e2)
    · cases he

theorem evBool_ok {rec : Rec} (R : RecOK z prog w hT σ₀ b n rec) (room : Room A n) {op : BoolOp} : ∀ {es : List Expr} {v : V} {H H' : Hp} {σ : List Addr} {s : Shared} {pos : Pos} {Q : Value → Shared → Prop}, evBool rec op κ ρ es H = some (v, H') →
    Good hT σ₀ κ ω ρ W env b σ H s.heap → KontT z hT b σ v H' Q s → (ht : z ≤ s.toks := by first | assumption | exact Tok1.pos _ | exact Nat.zero_le _) → wpAny (model prog w) A (boolOp pos op (evalEach es env)) Q E s
  | [], v, H, H', σ, s, pos, Q, he, G, k, ht => by simp [evBool] at he
  | [e], v, H, H', σ, s, pos, Q, he, G, k, ht => R.ok e κ ρ H v H' he A ω W env σ s Q E room G k ht
  | e :: e' :: r, v, H, H', σ, s, pos, Q, he, G, k, ht => by
    unfold evBool at he
    · obtain ⟨p, h1, he1⟩ := Option.bind_eq_some_iff.mp he
      obtain ⟨t, h2, he2⟩ := Option.bind_eq_some_iff.mp he1
      show wpAny _ _ (eval e env >>= fun v => standAt pos >>= fun _ => holding [v] (truthy v) >>= fun t => match op, t with
        | .And, false | .Or, true => pure v
        | _, _ => boolOp pos op (evalEach (e' :: r) env)) _ _ _
      refine wpAny_bind (R.ok e κ ρ H p.1 p.2 h1 A ω W env σ s _ E room G fun w1 h1' tk1 σ1 wr1 v1 e1 => ?_)
      refine wpAny_bind (wpAny_standAt (wpAny_bind (wpAny_holding (truthV_ok h2 v1 ?_))))
      split at he2
      · cases he2; exact wpAny_pure (k _ _ _ _ wr1 v1 e1)
      · cases he2; exact wpAny_pure (k _ _ _ _ wr1 v1 e1)
      · rename_i n1 n2
        have G' := G.step wr1 e1
        have ih := evBool_ok R room (pos := pos) he2 G' (k.after (tk := tk1) e1)
        cases op <;> cases t <;> first | exact (n1 rfl rfl).elim | exact (n2 rfl rfl).elim | exact ih

theorem evOpt_ok {rec : Rec} (R : RecOK z prog w hT σ₀ b n rec) (room : Room A n) {e : Option Expr} {v : V} {H' : Hp} {Q : Value → Shared → Prop} (he : evOpt rec κ ρ e H = some (v, H'))
    (G : Good hT σ₀ κ ω ρ W env b σ H s.heap) (k : KontT z hT b σ v H' Q s) (ht : z ≤ s.toks := by first | assumption | exact Tok1.pos _ | exact Nat.zero_le _) : wpAny (model prog w) A (evalPart e env) Q E s := by
  cases e with
  | none => simp [evOpt] at he; obtain ⟨rfl, rfl⟩ := he; exact wpAny_pure (k.same' G.wr .none ht)
  | some e => exact R.ok e κ ρ H v H' he A ω W env σ s Q E room G k ht
end
end Mine
end

section
set_option autoImplicit false
set_option maxRecDepth 100000
namespace Mine
open PySem PyProof.Rows
section
variable {z : Nat} {prog : Program} {w : World} {hT : Heap} {σ₀ : List Addr} {b n : Nat} {g : Glob} {A : Around} {E : Value → Shared → Prop} {s : Shared} {σ : List Addr} {H : Hp} {κ : Kap} {ω : Str → Bool} {ρ : Rho} {W : List Addr} {env : Env}

theorem release_ok {M : Model} {vs keep : List Value} {Q : Unit → Shared → Prop} (h : Q () s) : wpAny M A (release vs keep) Q E s := fun Γ p hΓ => by rw [Sem.wp_release]; exact h

theorem notSet_marks {op : CmpOp} {e : Expr} (h : notSet e = true) : behindInMarks op e = false := by
  cases e <;> first | rfl | (simp [notSet] at h)

theorem cmpChain_step {rec : Rec} {x : V} {ops : List CmpOp} {es : List Expr} {t : Bool} {H' : Hp} (h : cmpChain rec κ ρ x ops es H = some (t, H')) :
    ∃ op e p, ops = [op] ∧ es = [e] ∧ notSet e = true ∧ rec e κ ρ H = some p ∧ cmpop op x p.1 p.2 = some t ∧ H' = p.2 := by
  unfold cmpChain at h
  split at h
  · split at h
    · rename_i hn
      obtain ⟨p, h1, he1⟩ := Option.bind_eq_some_iff.mp h
      obtain ⟨c, h2, he2⟩ := Option.map_eq_some_iff.mp he1
      cases he2
      exact ⟨_, _, p, rfl, rfl, hn, h1, h2, rfl⟩
    · cases h
  · cases h

theorem marked_cons {op : CmpOp} {ops : List CmpOp} {e : Expr} {es : List Expr} {env : Env} (hn : notSet e = true) : markedEach (op :: ops) (e :: es) (evalEach (e :: es) env) = eval e env :: markedEach ops es (evalEach es env) := by
  cases ops with
  | nil =>
    cases es with
    | nil =>
      show [markedBehindIn op e (eval e env)] = _
      rw [markedBehindIn_of_false (notSet_marks hn)]
      rfl
    | cons e' es => rfl
  | cons op' ops => cases es <;> rfl

theorem cmpChain_ok {rec : Rec} (R : RecOK z prog w hT σ₀ b n rec) (room : Room A n) {ops : List CmpOp} {es : List Expr} {x : V} {wx : Value} {t : Bool} {H' : Hp} {pos : Pos} {Q : Value → Shared → Prop} (he : cmpChain rec κ ρ x ops es H = some (t, H'))
    (hx : VR σ s.heap x wx) (G : Good hT σ₀ κ ω ρ W env b σ H s.heap) (k : KontT z hT b σ (.bool t) H' Q s) (ht : z ≤ s.toks := by first | assumption | exact Tok1.pos _ | exact Nat.zero_le _) : wpAny (model prog w) A (compareChain pos wx ops (markedEach ops es (evalEach es env))) Q E s := by
  obtain ⟨op, e, p, rfl, rfl, hn, h1, h2, rfl⟩ := cmpChain_step he
  rw [marked_cons hn]
  show wpAny _ _ (do let rv ← holding [wx] (eval e env); standAt pos; operate [wx, rv] (compareOp op wx rv)) _ _ _
  refine wpAny_bind (wpAny_holding (R.ok e κ ρ H p.1 p.2 h1 A ω W env σ s _ E room G fun w1 h1' tk1 σ1 wr1 v1 e1 => ?_))
  exact wpAny_bind (wpAny_standAt (wpAny_operating (cmpop_ok h2 (hx.after G.wr e1) v1 wr1 room (k _ _ _ _ wr1 (.bool _) e1))))

theorem testChain_ok {rec : Rec} (R : RecOK z prog w hT σ₀ b n rec) (room : Room A n) {ops : List CmpOp} {es : List Expr} {x : V} {wx : Value} {t : Bool} {H' : Hp} {pos : Pos} {Q : Bool → Shared → Prop} (he : cmpChain rec κ ρ x ops es H = some (t, H'))
    (hx : VR σ s.heap x wx) (G : Good hT σ₀ κ ω ρ W env b σ H s.heap) (k : KontB z hT b σ t H' Q s) (ht : z ≤ s.toks := by first | assumption | exact Tok1.pos _ | exact Nat.zero_le _) : wpAny (model prog w) A (testChain pos wx ops (markedEach ops es (evalEach es env))) Q E s := by
  obtain ⟨op, e, p, rfl, rfl, hn, h1, h2, rfl⟩ := cmpChain_step he
  rw [marked_cons hn]
  show wpAny _ _ (do let rv ← holding [wx] (eval e env); standAt pos; let c ← operate [wx, rv] (compareOp op wx rv); holding [c] (truthy c)) _ _ _
  refine wpAny_bind (wpAny_holding (R.ok e κ ρ H p.1 p.2 h1 A ω W env σ s _ E room G fun w1 h1' tk1 σ1 wr1 v1 e1 => ?_))
  exact wpAny_bind (wpAny_standAt (wpAny_bind (wpAny_operating (cmpop_ok h2 (hx.after G.wr e1) v1 wr1 room (wpAny_holding (wpAny_truthy_bool (k _ _ _ wr1 e1)))))))

/-! calls -/
theorem evs_plain {rec : Rec} {env : Env} : ∀ {es : List Expr} {vs : List V} {H H' : Hp} {pos : Pos}, evs rec κ ρ es H = some (vs, H') → (backTo pos (starEach es env)).any (·.1) = false
  | [], _, _, _, _, _ => rfl
  | e :: r, vs, H, H', pos, he => by
    unfold evs at he
    split at he
    · rename_i hst
      obtain ⟨p, h1, he1⟩ := Option.bind_eq_some_iff.mp he
      obtain ⟨q, h2, he2⟩ := Option.map_eq_some_iff.mp he1
      have hs : starEach (e :: r) env = (false, eval e env) :: starEach r env := by
        cases e <;> first | rfl | (simp [notStar] at hst)
      rw [hs]
      show (false || (backTo pos (starEach r env)).any (·.1)) = false
      rw [evs_plain h2]; rfl
    · cases he

theorem args_ok {rec : Rec} (R : RecOK z prog w hT σ₀ b n rec) (room : Room A n) {es : List Expr} {vs : List V} {H' : Hp} {pos : Pos} {fv : Value} {Q : Args → Shared → Prop} (he : evs rec κ ρ es H = some (vs, H'))
    (G : Good hT σ₀ κ ω ρ W env b σ H s.heap) (k : KontL z hT b σ vs H' (fun ws s' => Q ⟨ws, []⟩ s') s) (ht : z ≤ s.toks := by first | assumption | exact Tok1.pos _ | exact Nat.zero_le _) : wpAny (model prog w) A (evalArgs fv true (backTo pos (starEach es env)) []) Q E s := by
  cases es with
  | nil =>
    simp [evs] at he
    obtain ⟨rfl, rfl⟩ := he
    exact PySem.evalArgs_none (k [] s.heap ⟨s.toks, ht⟩ σ G.wr .nil (Ext.refl ..))
  | cons e r =>
    have h := evs_ok (E := E) (pos := pos) R room he G k
    have hst : notStar e = true := by
      unfold evs at he
      split at he
      · rename_i q; exact q
      · cases he
    have hs : starEach (e :: r) env = (false, eval e env) :: starEach r env := by
      cases e <;> first | rfl | (simp [notStar] at hst)
    rw [hs] at h ⊢
    exact Calls.evalArgs_plain h

noncomputable def isBT : Value → Bool
  | .builtin _ => true
  | .type _ => true
  | _ => false
theorem ite_opt {c : Prop} [Decidable c] {a b : Option Value} {v : Value} (h : (if c then a else b) = some v) (ha : ∀ v, a = some v → isBT v = true) (hb : ∀ v, b = some v → isBT v = true) : isBT v = true := by
  split at h
  · exact ha v h
  · exact hb v h
theorem bval_bt {f : Str} {fv : Value} (h : bval f = some fv) : isBT fv = true := by
  unfold bval at h
  refine ite_opt h (fun v e => by cases e; rfl) fun v h => ?_
  refine ite_opt h (fun v e => by cases e; rfl) fun v h => ?_
  refine ite_opt h (fun v e => by cases e; rfl) fun v h => ?_
  refine ite_opt h (fun v e => by cases e; rfl) fun v h => ?_
  refine ite_opt h (fun v e => by cases e; rfl) fun v h => ?_
  refine ite_opt h (fun v e => by cases e; rfl) fun v h => ?_
  refine ite_opt h (fun v e => by cases e; rfl) fun v h => ?_
  refine ite_opt h (fun v e => by cases e; rfl) fun v h => ?_
  refine ite_opt h (fun v e => by cases e; rfl) fun v h => ?_
  refine ite_opt h (fun v e => by cases e; rfl) fun v h => ?_
  refine ite_opt h (fun v e => by cases e; rfl) fun v h => ?_
  refine ite_opt h (fun v e => by cases e; rfl) fun v h => by cases h
theorem bval_kind {f : Str} {fv : Value} (h : bval f = some fv) : (∃ id, fv = .builtin id) ∨ ∃ T, fv = .type T := by
  have := bval_bt h
  cases fv <;> simp [isBT] at this
  · exact .inr ⟨_, rfl⟩
  · exact .inl ⟨_, rfl⟩

theorem callVal_ok {rec : Rec} (R : RecOK z prog w hT σ₀ b n rec) (room : Room A n) {es : List Expr} {vs : List V} {H' : Hp} {pos : Pos} {fv : Value} {Q : Value → Shared → Prop} (hf : (∃ id, fv = .builtin id) ∨ ∃ T, fv = .type T) (he : evs rec κ ρ es H = some (vs, H'))
    (G : Good hT σ₀ κ ω ρ W env b σ H s.heap) (k : KontL z hT b σ vs H' (fun ws s' => wpAny (model prog w) A (call fv ws) Q E s') s) (ht : z ≤ s.toks := by first | assumption | exact Tok1.pos _ | exact Nat.zero_le _) : wpAny (model prog w) A (callWith pos fv [] (backTo pos (starEach es env)) []) Q E s := by
  rcases hf with ⟨id, rfl⟩ | ⟨T, rfl⟩
  · exact Calls.callWith_builtin (evs_plain he) (args_ok R room he G k)
  · exact PyProof.Rows.callWith_type (evs_plain he) (args_ok R room he G k)

theorem base_ok {o : Expr} {attr : Str} {whole : Sem Value} (h : okBase o = true) : attributeBase o attr env whole = whole := by
  unfold attributeBase
  split
  · simp [okBase] at h
  · rfl

theorem method_ok {rec : Rec} (R : RecOK z prog w hT σ₀ b n rec) (room : Room A n) {o : Expr} {m : Str} {ap pos : Pos} {es : List Expr} {p : V × Hp} {q : List V × Hp} {v : V} {H' : Hp} {Q : Value → Shared → Prop}
    (h1 : okBase o = true) (h2 : ap.endLine = pos.line) (h3 : es.length < 30) (ho : rec o κ ρ H = some p) (he : evs rec κ ρ es p.2 = some q) (hc : callM b m p.1 q.1 q.2 = some (v, H'))
    (G : Good hT σ₀ κ ω ρ W env b σ H s.heap) (k : KontT z hT b σ v H' Q s) (ht : z ≤ s.toks := by first | assumption | exact Tok1.pos _ | exact Nat.zero_le _) : wpAny (model prog w) A (eval (.Call (.Attribute o m ap) es [] pos) env) Q E s := by
  show wpAny _ _ (do
    let ov ← attributeBase o m env (eval o env)
    standAt ap.atName
    methodCall o m ap pos env ov (es.length + 0) (backTo pos (starEach es env)) []) _ _ _
  rw [base_ok h1]
  refine wpAny_bind (R.ok o κ ρ H p.1 p.2 ho A ω W env σ s _ E room G fun w1 h1' tk1 σ1 wr1 v1 e1 => wpAny_bind (wpAny_standAt ?_))
  have G1 := G.step wr1 e1
  have hform : methodCallForm (es.length + 0) (backTo pos (starEach es env)) [] = true := by
    have hp := evs_plain (env := env) (pos := pos) he
    unfold methodCallForm
    simp only [List.all_nil, List.isEmpty_nil, if_true, Nat.add_zero, Bool.and_true, Bool.and_eq_true, decide_eq_true_eq]
    refine ⟨?_, h3⟩
    rw [List.all_eq_not_any_not]
    simpa using hp
  unfold methodCall
  rw [hform]
  show wpAny _ _ (holding [w1] (getMethod w1 m (do return (← importBound o env).getD true)) >>= fun fx => methodCallPos true o env ap pos >>= fun cp => callWith cp fx.1 fx.2 (backTo pos (starEach es env)) []) _ _ _
  have hpos : methodCallPos true o env ap pos = pure pos := by
    unfold methodCallPos
    rw [if_pos (by simp [h2])]
  rw [hpos]
  obtain ⟨id, hid⟩ := callM_id hc
  refine wpAny_bind (wpAny_holding (getM_ok hid v1 wr1 ?_))
  refine wpAny_bind (wpAny_pure (Calls.callWith_builtin (evs_plain he) (args_ok R room he G1 fun ws h2' tk2 σ2 wr2 v2 e2 => ?_)))
  have G2 := G1.step wr2 e2
  exact lift (Tok1.pos _) (callM_ok hc hid (v1.after wr1 e2) wr2 G2.above v2 ((k.after (tk := tk1) e1).after (tk := tk2) e2).toK)

theorem lit_eq {e : Expr} {y : Str} (h : litStr e = some y) : ∃ a c, e = .Constant (.str y) a c := by
  unfold litStr at h
  split at h
  · split at h
    · cases h; exact ⟨_, _, rfl⟩
    · cases h
  · cases h

theorem replace_ok {rec : Rec} (R : RecOK z prog w hT σ₀ b n rec) (room : Room A n) {o : Expr} {m : Str} {ap pos : Pos} {es : List Expr} {p : V × Hp} {v : V} {H' : Hp} {Q : Value → Shared → Prop}
    (hz : z = 1) (h1 : okBase o = true) (h2 : ap.endLine = pos.line) (hm : m = "replace") (ho : rec o κ ρ H = some p) (hc : repl p.1 es p.2 = some (v, H'))
    (G : Good hT σ₀ κ ω ρ W env b σ H s.heap) (k : KontT z hT b σ v H' Q s) (ht : z ≤ s.toks := by first | assumption | exact Tok1.pos _ | exact Nat.zero_le _) : wpAny (model prog w) A (eval (.Call (.Attribute o m ap) es [] pos) env) Q E s := by
  subst hm
  show wpAny _ _ (do
    let ov ← attributeBase o "replace" env (eval o env)
    standAt ap.atName
    methodCall o "replace" ap pos env ov (es.length + 0) (backTo pos (starEach es env)) []) _ _ _
  rw [base_ok h1]
  refine wpAny_bind (R.ok o κ ρ H p.1 p.2 ho A ω W env σ s _ E room G fun w1 h1' tk1 σ1 wr1 v1 e1 => wpAny_bind (wpAny_standAt ?_))
  obtain ⟨pv, pH⟩ := p
  unfold repl at hc
  split at hc
  · rename_i e f
    obtain ⟨y, hy, hc1⟩ := Option.bind_eq_some_iff.mp hc
    obtain ⟨zz, hzz, hc2⟩ := Option.bind_eq_some_iff.mp hc1
    obtain ⟨a1, c1, rfl⟩ := lit_eq hy
    obtain ⟨a2, c2, rfl⟩ := lit_eq hzz
    unfold replV at hc2
    split at hc2
    · rename_i x hp
      simp only at hp
      subst hp
      split at hc2
      · rename_i hl
        cases hc2
        cases v1 with | str _ t hx =>
        have hform : methodCallForm ([Expr.Constant (.str y) a1 c1, Expr.Constant (.str zz) a2 c2].length + 0) (backTo pos (starEach [Expr.Constant (.str y) a1 c1, Expr.Constant (.str zz) a2 c2] env)) [] = true := rfl
        unfold methodCall
        rw [hform]
        show wpAny _ _ (holding [.str x t] (getMethod (.str x t) "replace" (do return (← importBound o env).getD true)) >>= fun fx => methodCallPos true o env ap pos >>= fun cp => callWith cp fx.1 fx.2 (backTo pos (starEach [Expr.Constant (.str y) a1 c1, Expr.Constant (.str zz) a2 c2] env)) []) _ _ _
        have hpos : methodCallPos true o env ap pos = pure pos := by
          unfold methodCallPos
          rw [if_pos (by simp [h2])]
        rw [hpos]
        refine wpAny_bind (wpAny_holding (PySem.GM.replace ?_))
        refine wpAny_bind (wpAny_pure (Calls.callWith_builtin rfl (Calls.evalArgs_plain ?_)))
        show wpAny _ _ (spliced ((false, constValue env (.str y)) :: (false, constValue env (.str zz)) :: [])) _ _ _
        refine Calls.spliced_cons (wpAny_mkText (Calls.spliced_cons (wpAny_mkText (Calls.spliced_nil ?_))))
        have hp1 := tk1.pos
        refine lift (z := z) (by show z ≤ tk1.n + 1 + 1; omega) (SC.replaceW (by show tk1.n ≠ 0; omega) (by show tk1.n + 1 ≠ 0; omega) (by show tk1.n ≠ tk1.n + 1; omega) hl.2.2.1 (by omega) hl.2.1 fun t' kk hkk => ?_)
        exact k _ h1' ⟨kk, hkk⟩ σ1 wr1 (.str _ _ (Nat.le_trans hl.2.2.2 (by rw [sizeLine_val]; decide))) e1
      · cases hc2
    · cases hc2
  · cases hc
end
end Mine
end

section
set_option autoImplicit false
set_option maxRecDepth 100000
namespace Mine
open PySem PyProof.Rows

mutual
theorem V.beq_eq : ∀ {a b : V}, V.beq a b = true → a = b
  | .none, b, h => by cases b <;> simp [V.beq] at h; rfl
  | .bool x, b, h => by cases b <;> simp [V.beq] at h; rw [h]
  | .int x, b, h => by cases b <;> simp [V.beq] at h; rw [h]
  | .str x, b, h => by cases b <;> simp [V.beq] at h; rw [h]
  | .type x, b, h => by cases b <;> simp [V.beq] at h; rw [h]
  | .ref x, b, h => by cases b <;> simp [V.beq] at h; rw [h]
  | .tup x, b, h => by
    cases b <;> simp [V.beq] at h
    rw [V.beqs_eq h]
theorem V.beqs_eq : ∀ {a b : List V}, V.beqs a b = true → a = b
  | [], b, h => by cases b <;> simp [V.beqs] at h; rfl
  | x :: r, b, h => by
    cases b with
    | nil => simp [V.beqs] at h
    | cons y q =>
      simp [V.beqs] at h
      rw [V.beq_eq h.1, V.beqs_eq h.2]
end

theorem chk_eq {a : Nat} {all : List V} {H : Hp} (h : chk (some a) all H = true) : H[a]? = some all := by
  unfold chk at h
  split at h
  · rename_i q; cases q
  · rename_i q
    cases q
    split at h
    · rename_i xs e; rw [e, V.beqs_eq h]
    · cases h

noncomputable def chars (x : Str) : List V := x.cps.toList.map fun c => .str ⟨#[c]⟩
noncomputable def intsV (lo : Int) (k : Nat) : List V := (List.range k).map fun i : Nat => .int (lo + i)
theorem intsV_succ (lo : Int) (k : Nat) : intsV lo (k + 1) = .int lo :: intsV (lo + 1) k := by
  unfold intsV
  rw [List.range_succ_eq_map, List.map_cons, List.map_map]
  congr 1
  · simp
  · apply List.map_congr_left
    intro i _
    simp only [Function.comp]
    congr 1
    have : ((Nat.succ i : Nat) : Int) = (i : Int) + 1 := by omega
    rw [this]; omega

/-- an iterator at it that still has rest to give -/
inductive It (σ : List Addr) (h : Heap) (it : Addr) : Option Nat → List V → List V → Prop
  | list {a l all i} : σ[a]? = some l → h.IsListIter it l i → It σ h it (some a) all (all.drop i)
  | tuple {r arr all i} : h.IsTuple r arr → VRs σ h all arr.toList → h.IsTupleIter it r i → It σ h it none all (all.drop i)
  | str {T x t all i} : (T = "str_ascii_iterator" ∨ T = "str_iterator") → h.IsStrIter it T x t i → It σ h it none all ((chars x).drop i)
  | range {lo all} {k : Nat} : IsRangeIter h it lo k 1 → It σ h it none all (intsV lo k)

theorem It.obj {σ : List Addr} {h : Heap} {it : Addr} {c : Option Nat} {all rest : List V} (x : It σ h it c all rest) : ∃ o, h.get? it = some o ∧ (∀ arr n, o.data ≠ .seq arr n) := by
  cases x with
  | list _ q => obtain ⟨o, a, b, c⟩ := q; exact ⟨o, a, (by rw [c]; intro _ _ e; cases e)⟩
  | tuple _ _ q => obtain ⟨o, a, b, c⟩ := q; exact ⟨o, a, (by rw [c]; intro _ _ e; cases e)⟩
  | str hT q => obtain ⟨o, a, b, c⟩ := q; exact ⟨o, a, (by rw [c]; intro _ _ e; cases e)⟩
  | range q => exact ⟨_, q, (by intro _ _ e; cases e)⟩

theorem It.keep {σ σ' : List Addr} {h h' : Heap} {it : Addr} {c : Option Nat} {all rest : List V} (x : It σ h it c all rest) (p : σ <+: σ') (tu : Tups h h') (k : ∀ o, h.get? it = some o → h'.get? it = some o) : It σ' h' it c all rest := by
  cases x with
  | list a q => obtain ⟨o, e, r⟩ := q; exact .list (getElem?_prefix p a) ⟨o, k o e, r⟩
  | tuple a v q =>
    obtain ⟨o, e, r⟩ := q
    obtain ⟨o₁, e₁, c₁, r₁⟩ := a
    exact .tuple ⟨o₁, tu _ _ e₁ c₁ ⟨_, r₁⟩, c₁, r₁⟩ (v.mono p tu) ⟨o, k o e, r⟩
  | str ht q => obtain ⟨o, e, r⟩ := q; exact .str ht ⟨o, k o e, r⟩
  | range q => exact .range (k _ q)

theorem drop_cons {α : Type} {xs : List α} {i : Nat} {v : α} {rest : List α} (h : xs.drop i = v :: rest) : xs[i]? = some v ∧ rest = xs.drop (i + 1) := by
  constructor
  · have := List.getElem?_drop (xs := xs) (i := i) (j := 0)
    rw [h] at this
    simpa using this.symm
  · rw [← List.drop_drop, h]; rfl
theorem drop_nil {α : Type} {xs : List α} {i : Nat} (h : xs.drop i = []) : xs[i]? = none := by
  rw [List.drop_eq_nil_iff] at h
  exact List.getElem?_eq_none h

theorem tups_same {h h' : Heap} {it : Addr} {o : Obj} (hs : Heap.SameBut it h h') (e : h.get? it = some o) (hd : ∀ arr n, o.data ≠ .seq arr n) : Tups h h' := fun a o' e' _ d' => by
  refine (hs.2 a fun q => ?_).trans e'
  subst q
  rw [e] at e'; cases e'
  obtain ⟨arr, n, d⟩ := d'
  exact hd arr n d

section
variable {prog : Program} {w : World} {hT : Heap} {A : Around} {E : Value → Shared → Prop} {s : Shared} {σ : List Addr} {H : Hp}

theorem next_item {it : Addr} {c : Option Nat} {all rest : List V} {v : V} {Q : Option Value → Shared → Prop} (x : It σ s.heap it c all (v :: rest)) (hc : chk c all H = true) (wr : WR hT σ H s.heap)
    (k : ∀ wv h' tk, VR σ h' v wv → It σ h' it c all rest → Heap.SameBut it s.heap h' → Q (some wv) { s with heap := h', toks := tk }) : wpAny (model prog w) A (pyNext (.ref it)) Q E s := by
  obtain ⟨o, eo, hd⟩ := x.obj
  generalize hr : v :: rest = r at x
  cases x with
  | list ha q =>
    obtain ⟨e1, rfl⟩ := drop_cons hr.symm
    obtain ⟨arr, p, vx, _⟩ := wr.obj _ _ _ (chk_eq hc) ha
    obtain ⟨wv, e2, e3⟩ := vx.get e1
    refine wpAny_pyNext_list_item q p.isList (by rw [← Array.getElem?_toList]; exact e2) fun h' q' hs => ?_
    have tu := tups_same hs eo hd
    exact k wv h' s.toks (e3.mono (prefix_same _) tu) (.list ha q') hs
  | tuple ht vx q =>
    obtain ⟨e1, rfl⟩ := drop_cons hr.symm
    obtain ⟨wv, e2, e3⟩ := vx.get e1
    refine wpAny_pyNext_tuple_item q ht (by rw [← Array.getElem?_toList]; exact e2) fun h' q' hs => ?_
    have tu := tups_same hs eo hd
    obtain ⟨o₁, e₁, c₁, r₁⟩ := ht
    exact k wv h' s.toks (e3.mono (prefix_same _) tu) (.tuple ⟨o₁, tu _ _ e₁ c₁ ⟨_, r₁⟩, c₁, r₁⟩ (vx.mono (prefix_same _) tu) q') hs
  | str ht q =>
    obtain ⟨e1, rfl⟩ := drop_cons hr.symm
    unfold chars at e1
    rw [List.getElem?_map] at e1
    obtain ⟨ch, e2, e3⟩ := Option.map_eq_some_iff.mp e1
    rw [Array.getElem?_toList] at e2
    subst e3
    rcases ht with rfl | rfl
    · exact wpAny_pyNext_ascii_item q e2 fun h' q' hs => k _ h' _ (.str _ _ (by show (1 : Nat) ≤ _; decide)) (.str (.inl rfl) q') hs
    · exact wpAny_pyNext_wide_item q e2 fun h' q' hs => k _ h' _ (.str _ _ (by show (1 : Nat) ≤ _; decide)) (.str (.inr rfl) q') hs
  | range q =>
    rename_i lo kk
    cases kk with
    | zero => simp [intsV] at hr
    | succ kk =>
      rw [intsV_succ] at hr
      injection hr with h1 h2
      subst h1 h2
      refine wpAny_pyNext_range_item q (by omega) fun h' q' hs => k _ h' _ (.int _ _) (.range ?_) hs
      have e : ((kk + 1 : Nat) : Int) - 1 = (kk : Int) := by omega
      rw [e] at q'
      exact q'

theorem next_end {it : Addr} {c : Option Nat} {all : List V} {Q : Option Value → Shared → Prop} (hh : A.handled = none) (x : It σ s.heap it c all []) (hc : chk c all H = true) (wr : WR hT σ H s.heap)
    (k : ∀ h', Heap.ExtBut it s.heap h' → Q none { s with heap := h' }) : wpAny (model prog w) A (pyNext (.ref it)) Q E s := by
  generalize hr : ([] : List V) = r at x
  cases x with
  | list ha q =>
    obtain ⟨arr, p, vx, _⟩ := wr.obj _ _ _ (chk_eq hc) ha
    have e1 := drop_nil hr.symm
    refine wpAny_pyNext_list_end hh q p.isList ?_ k
    rw [← Array.getElem?_toList]
    have := vx.length
    rw [List.getElem?_eq_none_iff] at e1 ⊢
    omega
  | tuple ht vx q =>
    have e1 := drop_nil hr.symm
    refine wpAny_pyNext_tuple_end hh q ht ?_ k
    rw [← Array.getElem?_toList]
    have := vx.length
    rw [List.getElem?_eq_none_iff] at e1 ⊢
    omega
  | str ht q =>
    have e1 := drop_nil hr.symm
    unfold chars at e1
    rw [List.getElem?_map, Option.map_eq_none_iff, Array.getElem?_toList] at e1
    rcases ht with rfl | rfl
    · exact wpAny_pyNext_ascii_end hh q e1 k
    · exact wpAny_pyNext_wide_end hh q e1 k
  | range q =>
    rename_i lo kk
    cases kk with
    | zero => exact wpAny_pyNext_range_end hh q (by omega) k
    | succ kk => rw [intsV_succ] at hr; cases hr

theorem iter_self {it : Addr} {c : Option Nat} {all rest : List V} {Q : Value → Shared → Prop} (x : It σ s.heap it c all rest) (k : Q (.ref it) s) : wpAny (model prog w) A (pyIter (.ref it)) Q E s := by
  cases x with
  | list ha q => exact wpAny_pyIter_listiter q k
  | tuple ht vx q => exact wpAny_pyIter_tupleiter q k
  | str ht q =>
    rcases ht with rfl | rfl
    · exact wpAny_pyIter_striter_ascii q k
    · exact wpAny_pyIter_striter_wide q k
  | range q => exact wpAny_pyIter_rangeiter q k
end
end Mine
end

section
set_option autoImplicit false
set_option maxRecDepth 100000
namespace Mine
open PySem PyProof.Rows

inductive FR (σ : List Addr) (h : Heap) : Fl → Flow → Prop
  | next : FR σ h .next .next
  | brk : FR σ h .brk .brk
  | cont : FR σ h .cont .cont
  | ret {v wv} : VR σ h v wv → FR σ h (.ret v) (.ret wv)

section
variable (z : Nat) (prog : Program) (w : World) (hT : Heap) (σ₀ : List Addr) (b n : Nat) (κ : Kap) (ω : Str → Bool)
/-- what a statement hands on -/
noncomputable def KontS (W : List Addr) (env : Env) (σ : List Addr) (fl : Fl) (ρ' : Rho) (H' : Hp) (Q : Flow → Shared → Prop) (s : Shared) : Prop :=
  ∀ fw h' (tk : Tok1 z) σ', Good hT σ₀ κ ω ρ' W env b σ' H' h' → FR σ' h' fl fw → Ext W b σ s.heap σ' h' → Q fw { s with heap := h', toks := tk.n }
structure RecSOK (recS : RecS) : Prop where
  ok : ∀ st ρ H fl ρ' H', recS st ρ H = some (fl, ρ', H') → ∀ (A : Around) (W : List Addr) (env : Env) (σ : List Addr) (s : Shared) (Q : Flow → Shared → Prop) (E : Value → Shared → Prop),
  Room A n → Good hT σ₀ κ ω ρ W env b σ H s.heap → KontS z hT σ₀ b κ ω W env σ fl ρ' H' Q s → (ht : z ≤ s.toks := by first | assumption | exact Tok1.pos _ | exact Nat.zero_le _) → wpAny (model prog w) A (exec st env) Q E s
end

section
variable {z : Nat} {prog : Program} {w : World} {hT : Heap} {σ₀ : List Addr} {b n : Nat} {g : Glob} {A : Around} {E : Value → Shared → Prop} {s : Shared} {σ : List Addr} {H : Hp} {κ : Kap} {ω : Str → Bool} {ρ : Rho} {W : List Addr} {env : Env}

theorem KontS.after {σ' : List Addr} {fl : Fl} {ρ' : Rho} {H' : Hp} {Q : Flow → Shared → Prop} {h' : Heap} {tk : Tok1 z} (k : KontS z hT σ₀ b κ ω W env σ fl ρ' H' Q s) (e : Ext W b σ s.heap σ' h') : KontS z hT σ₀ b κ ω W env σ' fl ρ' H' Q { s with heap := h', toks := tk.n } :=
  fun fw h'' tk' σ'' G f ex => k fw h'' tk' σ'' G f (e.trans ex)

theorem Ext.nil {σ' : List Addr} {h h' : Heap} (x : Ext [] b σ h σ' h') : Ext W b σ h σ' h' := x.weaken fun _ _ _ q => by cases q

/-- one object of the frame's own (its locals, a cell) is changed -/
theorem WR.other {h h' : Heap} {a : Addr} {o : Obj} (x : WR hT σ H h) (hs : Heap.SameBut a h h') (ho : h.get? a = some o) (hd : ∀ arr n, o.data ≠ .seq arr n) (ht : hT.get? a = none) : WR hT σ H h' := by
  have tu : Tups h h' := tups_same hs ho hd
  refine ⟨x.len, fun c ys q h1 h2 => ?_, x.nodup, fun d o' e => ?_⟩
  · obtain ⟨arr, p, v, l⟩ := x.obj c ys q h1 h2
    refine ⟨arr, p.at fun o' e => (hs.2 q fun e' => ?_).trans e, v.mono (prefix_same _) tu, l⟩
    subst e'
    exact x.not_of_data ho hd (List.mem_of_getElem? h2)
  · refine (hs.2 d fun e' => ?_).trans (x.top d o' e)
    subst e'
    rw [ht] at e; cases e

theorem upd_self (ρ : Rho) (x : Str) (v : V) : upd ρ x v x = some v := by simp [upd]
theorem upd_other (ρ : Rho) {x y : Str} (v : V) (h : y ≠ x) : upd ρ x v y = ρ y := by simp [upd, h]

/-- a name's store -/
theorem store_ok {x : Str} {v : V} {wv : Value} {Q : Unit → Shared → Prop} (hω : ω x = true) (G : Good hT σ₀ κ ω ρ W env b σ H s.heap) (hv : VR σ s.heap v wv)
    (k : ∀ h' tk, Good hT σ₀ κ ω (upd ρ x v) W env b σ H h' → Ext W b σ s.heap σ h' → Q () { s with heap := h', toks := tk }) : wpAny (model prog w) A (storeName env x wv) Q E s := by
  obtain ⟨m, hm, hmv⟩ := G.env.ns
  rcases G.env.own x hω with hk | ⟨hk, hcw⟩
  · refine wpAny_storeName_local (by rw [G.env.kind]; exact hk) hm (fun h' hm' hs => ?_) (by rw [G.env.fn]; rfl)
    obtain ⟨o, es, ep, ho, hd, _⟩ := id hm
    obtain ⟨o', es', ep', ho', hd', _⟩ := id hm'
    have hds : ∀ arr n, o.data ≠ .seq arr n := by rw [hd]; intro _ _ e; cases e
    have tu := tups_same hs ho hds
    have wr' := G.wr.other hs ho hds (G.wabove _ G.env.loc)
    refine k h' _ ⟨wr', ⟨G.env.fn, G.env.kind, G.env.glob, G.env.blt, ⟨_, hm', fun y u hy he => ?_⟩, fun y hy => ?_, G.env.inj, G.env.own, G.env.loc, fun a ha => ?_⟩, G.base, G.above, G.wabove, G.tab⟩
      ⟨⟨[], by simp, by simp⟩, there_same hs ho', fun a oa e hw _ => (hs.2 a fun q => hw (by rw [q]; exact G.env.loc)).trans e⟩
    · by_cases q : y = x
      · subst q
        rw [upd_self] at he; cases he
        exact ⟨wv, by simp, hv.mono (prefix_same _) tu⟩
      · rw [upd_other _ _ q] at he
        obtain ⟨wu, e1, e2⟩ := hmv y u hy he
        exact ⟨wu, by simp [q, e1], e2.mono (prefix_same _) tu⟩
    · obtain ⟨c, v₀, e1, ⟨oc, e2, e3⟩, e4⟩ := G.env.cell y hy
      have hyx : y ≠ x := by rintro rfl; rw [hk] at hy; rcases hy with q | q <;> cases q
      refine ⟨c, v₀, e1, ⟨oc, (hs.2 c fun q => ?_).trans e2, e3⟩, fun u he => ?_⟩
      · subst q
        rw [ho] at e2; cases e2
        rw [hd] at e3; cases e3
      · rw [upd_other _ _ hyx] at he
        obtain ⟨wu, e5, e6⟩ := e4 u he
        exact ⟨wu, e5, e6.mono (prefix_same _) tu⟩
    · by_cases q : a = env.locals
      · subst q; exact ⟨o', ho', by rw [hd']; intro _ _ e; cases e⟩
      · obtain ⟨oa, e1, e2⟩ := G.env.wobj a ha
        exact ⟨oa, (hs.2 a q).trans e1, e2⟩
  · obtain ⟨c, v₀, e1, hc, e4⟩ := G.env.cell x (.inl hk)
    have hcW := hcw c e1
    refine wpAny_storeName_cell G.env.fn (by rw [G.env.kind]; exact hk) e1 hc fun h' hc' hs => ?_
    obtain ⟨o, ho, hd⟩ := id hc
    obtain ⟨o', ho', hd'⟩ := id hc'
    have hds : ∀ arr n, o.data ≠ .seq arr n := by rw [hd]; intro _ _ e; cases e
    have tu := tups_same hs ho hds
    have wr' := G.wr.other hs ho hds (G.wabove _ hcW)
    obtain ⟨oL, es, ep, hoL, hdL, rL⟩ := id hm
    have hLc : env.locals ≠ c := by
      intro q; rw [q, ho] at hoL; cases hoL; rw [hd] at hdL; cases hdL
    refine k h' s.toks ⟨wr', ⟨G.env.fn, G.env.kind, G.env.glob, G.env.blt, ⟨m, hm.sameBut hs hLc, fun y u hy he => ?_⟩, fun y hy => ?_, G.env.inj, G.env.own, G.env.loc, fun a ha => ?_⟩, G.base, G.above, G.wabove, G.tab⟩
      ⟨⟨[], by simp, by simp⟩, there_same hs ho', fun a oa e hw _ => (hs.2 a fun q => hw (by rw [q]; exact hcW)).trans e⟩
    · have hyx : y ≠ x := by rintro rfl; rw [hk] at hy; cases hy
      rw [upd_other _ _ hyx] at he
      obtain ⟨wu, e5, e6⟩ := hmv y u hy he
      exact ⟨wu, e5, e6.mono (prefix_same _) tu⟩
    · by_cases q : y = x
      · subst q
        refine ⟨c, _, e1, hc', fun u he => ?_⟩
        rw [upd_self] at he; cases he
        exact ⟨wv, rfl, hv.mono (prefix_same _) tu⟩
      · obtain ⟨d, u₀, f1, f2, f4⟩ := G.env.cell y hy
        refine ⟨d, u₀, f1, f2.sameBut hs fun e => q (G.env.inj y x d f1 (by rw [e]; exact e1)), fun u he => ?_⟩
        rw [upd_other _ _ q] at he
        obtain ⟨wu, e5, e6⟩ := f4 u he
        exact ⟨wu, e5, e6.mono (prefix_same _) tu⟩
    · by_cases q : a = c
      · subst q; exact ⟨o', ho', by rw [hd']; intro _ _ e; cases e⟩
      · obtain ⟨oa, f1, f2⟩ := G.env.wobj a ha
        exact ⟨oa, (hs.2 a q).trans f1, f2⟩
end
end Mine
end

section
set_option autoImplicit false
set_option maxRecDepth 100000
namespace Mine
open PySem PyProof.Rows
section
variable {z : Nat} {prog : Program} {w : World} {hT : Heap} {σ₀ : List Addr} {b n : Nat} {g : Glob} {A : Around} {E : Value → Shared → Prop} {s : Shared} {σ : List Addr} {H : Hp} {κ : Kap} {ω : Str → Bool} {ρ : Rho} {W : List Addr} {env : Env}

/-- a name's, or a tuple of names', binding -/
theorem bindNames_ok : ∀ {ts : List Expr} {vs : List V} {ws : List Value} {ρ ρ' : Rho} {s : Shared} {Q : Unit → Shared → Prop}, bindNames ω ts vs ρ = some ρ' → Good hT σ₀ κ ω ρ W env b σ H s.heap → VRs σ s.heap vs ws →
    (∀ h' tk, Good hT σ₀ κ ω ρ' W env b σ H h' → Ext W b σ s.heap σ h' → Q () { s with heap := h', toks := tk }) → wpAny (model prog w) A (assignInOrder ((assignEach ts env).map (·.2)) ws) Q E s
  | [], vs, ws, ρ, ρ', s, Q, he, G, hv, k => by
    cases vs with
    | nil => simp [bindNames] at he; subst he; exact wpAny_pure (k s.heap s.toks G (Ext.refl ..))
    | cons _ _ => simp [bindNames] at he
  | t :: ts, vs, ws, ρ, ρ', s, Q, he, G, hv, k => by
    unfold bindNames at he
    split at he
    · cases ‹t :: ts = []›
    · rename_i x pos r v vs' heq
      injection heq with h1 h2
      subst h1 h2
      split at he
      · rename_i hω
        cases hv with | cons hx hr =>
        rename_i wx wr'
        show wpAny _ _ (holding wr' (assign (.Name x pos) env wx) >>= fun _ => assignInOrder ((assignEach ts env).map (·.2)) wr') _ _ _
        refine wpAny_bind (wpAny_holding (wpAny_assign_Name (store_ok hω G hx fun h' tk G' e' => ?_)))
        have tu := e'.tupsW G.wr G.env.wobj
        exact bindNames_ok he G' (hr.mono (prefix_same _) tu) fun h'' tk' G'' e'' => k h'' tk' G'' (e'.trans e'')
      · cases he
    · cases he

theorem starEach_none : ∀ {ts : List Expr} {vs : List V} {ρ ρ' : Rho}, bindNames ω ts vs ρ = some ρ' → (assignEach ts env).findIdx? (·.1) = none ∧ (assignEach ts env).length = vs.length
  | [], vs, ρ, ρ', he => by
    cases vs with
    | nil => exact ⟨rfl, rfl⟩
    | cons _ _ => simp [bindNames] at he
  | t :: ts, vs, ρ, ρ', he => by
    unfold bindNames at he
    split at he
    · cases ‹t :: ts = []›
    · rename_i x pos r v vs' heq
      injection heq with h1 h2
      subst h1 h2
      split at he
      · obtain ⟨a, c⟩ := starEach_none he
        have e : assignEach (.Name x pos :: ts) env = (false, assign (.Name x pos) env) :: assignEach ts env := rfl
        rw [e]
        refine ⟨?_, by simp [c]⟩
        rw [List.findIdx?_cons]
        simp [a]
      · cases he
    · cases he

theorem assign_ok {t : Expr} {v : V} {wv : Value} {ρ' : Rho} {Q : Unit → Shared → Prop} (he : bindT ω t v ρ = some ρ') (hh : A.handled = none) (G : Good hT σ₀ κ ω ρ W env b σ H s.heap) (hv : VR σ s.heap v wv)
    (k : ∀ h' tk, Good hT σ₀ κ ω ρ' W env b σ H h' → Ext W b σ s.heap σ h' → Q () { s with heap := h', toks := tk }) : wpAny (model prog w) A (assign t env wv) Q E s := by
  unfold bindT at he
  split at he
  · split at he
    · rename_i hω
      cases he
      exact wpAny_assign_Name (store_ok hω G hv k)
    · cases he
  · rename_i ts q pos
    split at he
    · rename_i vs
      cases hv with | tup h1 h2 h3 h4 h5 =>
      rename_i r o arr m
      obtain ⟨e1, e2⟩ := starEach_none (env := env) he
      show wpAny _ _ (standAt pos >>= fun _ => unpack (.ref r) (assignEach ts env)) _ _ _
      refine wpAny_bind (wpAny_standAt (wpAny_unpack_tuple hh ⟨o, h1, h2, m, h3⟩ (by rw [e2, arr_of h4]) e1 fun h' hx => ?_))
      -- the unpacking's own iterator is new
      have hk : ∀ a o, s.heap.get? a = some o → h'.get? a = some o := fun a o e => hx a o (Nat.ne_of_lt (Heap.lt_size e)) e
      have wr' : WR hT σ H h' := ⟨G.wr.len, fun a xs r e1 e2 => let ⟨arr, p, q, l⟩ := G.wr.obj a xs r e1 e2; ⟨arr, p.at fun o e => hk _ _ e, q.mono (prefix_same _) (Tups.keeps hk), l⟩, G.wr.nodup, fun a o e => hk _ _ (G.wr.top a o e)⟩
      have ex : Ext [] b σ s.heap σ h' := ⟨⟨[], by simp, by simp⟩, fun a o e => ⟨o, hk a o e⟩, fun a o e _ _ => hk a o e⟩
      exact bindNames_ok he (G.step wr' ex) (h4.mono (prefix_same _) (Tups.keeps hk)) fun h'' tk' G'' e'' => k h'' tk' G'' (ex.nil.trans e'')
    · cases he
  · cases he

theorem fresh_of {σ' : List Addr} {h h' : Heap} {W' : List Addr} (e : Ext W' b σ h σ' h') {a : Addr} (ha : h'.get? a = none) : h.get? a = none := by
  cases q : h.get? a with
  | none => rfl
  | some o =>
    obtain ⟨o', e'⟩ := e.there a o q
    rw [ha] at e'; cases e'

/-- an iterator for what a loop goes over -/
theorem items_ok {v : V} {wv : Value} {items : List V} {c : Option Nat} {Q : Value → Shared → Prop} (he : itemsOf v H = some (items, c)) (hv : VR σ s.heap v wv) (wr : WR hT σ H s.heap)
    (k : ∀ it h' tk, WR hT σ H h' → It σ h' it c items items → Ext [] b σ s.heap σ h' → s.heap.get? it = none → Q (.ref it) { s with heap := h', toks := tk }) : wpAny (model prog w) A (pyIter wv) Q E s := by
  unfold itemsOf at he
  split at he
  · rename_i x
    cases he
    cases hv with | str _ t hl =>
    refine wpAny_pyIter_strU ?_
    refine k _ _ s.toks (wr.push _) ?_ (Ext.push ..) (get_size _)
    have := It.str (σ := σ) (h := s.heap.push { cls := .type (strIterType x), data := .fields #[.str x t, .int 0 0] }) (it := s.heap.objs.size) (T := strIterType x) (x := x) (t := t) (all := chars x) (i := 0)
      (by unfold strIterType; split <;> simp) ⟨_, Heap.get?_push_size _ rfl, rfl, rfl⟩
    rw [List.drop_zero] at this
    exact this
  · cases he
    cases hv with | tup h1 h2 h3 h4 h5 =>
    rename_i vs r o arr m
    have ht : s.heap.IsTuple r arr := ⟨o, h1, h2, m, h3⟩
    refine wpAny_pyIter_tuple ht ?_
    refine k _ _ s.toks (wr.push _) ?_ (Ext.push ..) (get_size _)
    have kk : ∀ a o', s.heap.get? a = some o' → (s.heap.push { cls := .type "tuple_iterator", data := .fields #[.ref r, .int 0 0] }).get? a = some o' := fun _ _ e => Heap.get?_push_of_some _ e
    have := It.tuple (σ := σ) (h := s.heap.push { cls := .type "tuple_iterator", data := .fields #[.ref r, .int 0 0] }) (it := s.heap.objs.size) (i := 0) ⟨o, kk _ _ h1, h2, m, h3⟩ (h4.mono (prefix_same _) (Tups.keeps kk)) ⟨_, Heap.get?_push_size _ rfl, rfl, rfl⟩
    rw [List.drop_zero] at this
    exact this
  · rename_i a
    cases hv with | ref ha =>
    rename_i l
    obtain ⟨xs, h0, h1⟩ := Option.map_eq_some_iff.mp he
    cases h1
    obtain ⟨arr, p, vx, _⟩ := wr.obj a items l h0 ha
    refine wpAny_pyIter_list p.isList ?_
    refine k _ _ s.toks (wr.push _) ?_ (Ext.push ..) (get_size _)
    have := It.list (σ := σ) (h := s.heap.push { cls := .type "list_iterator", data := .fields #[.ref l, .int 0 0] }) (it := s.heap.objs.size) (all := items) (i := 0) ha ⟨_, Heap.get?_push_size _ rfl, rfl, rfl⟩
    rw [List.drop_zero] at this
    exact this
  · cases he

theorem notSet_folded {e : Expr} (h : notSet e = true) (x : Value) : foldedSetIterable e env x = pure x := by
  unfold foldedSetIterable
  split
  · simp [notSet] at h
  · rfl

theorem rangeCall_eq {e : Expr} {f : Str} {args : List Expr} (h : rangeCall e = some (f, args)) : f = "range" ∧ ∃ p pos, e = .Call (.Name f p) args [] pos := by
  unfold rangeCall at h
  split at h
  · split at h
    · rename_i q; cases h; exact ⟨q, _, _, rfl⟩
    · cases h
  · cases h

theorem rangeSize_eq (lo hi : Int) : Builtin.Range.rangeSize lo hi 1 = ((hi - lo).toNat : Int) := by
  unfold Builtin.Range.rangeSize
  simp only [show (1 : Int) > 0 by omega, if_true, Int.ediv_one]
  split <;> omega
theorem range_small {lo hi : Int} (h1 : lo.natAbs ≤ 2 ^ 40) (h2 : hi.natAbs ≤ 2 ^ 40) : Builtin.Range.small lo hi 1 = true := by
  unfold Builtin.Range.small
  rw [rangeSize_eq]
  simp only [Builtin.Range.rangeFitsLong, Bool.and_eq_true, decide_eq_true_eq, show (1 : Int) > 0 by omega, if_true]
  simp at h1 h2
  simp
  omega

theorem evIter_ok {rec : Rec} (B : Base prog w hT σ₀ n g) (R : RecOK z prog w hT σ₀ b n rec) (room : Room A n) {e : Expr} {items : List V} {c : Option Nat} {H' : Hp} {Q : Value → Shared → Prop} (he : evIter g rec κ ρ e H = some ((items, c), H'))
    (G : Good hT σ₀ κ ω ρ W env b σ H s.heap)
    (k : ∀ it h' (tk : Tok1 z) σ', WR hT σ' H' h' → It σ' h' it c items items → Ext [] b σ s.heap σ' h' → s.heap.get? it = none → Q (.ref it) { s with heap := h', toks := tk.n }) (ht : z ≤ s.toks := by first | assumption | exact Tok1.pos _ | exact Nat.zero_le _) :
    wpAny (model prog w) A (eval e env) (fun x s₁ => wpAny (model prog w) A (pyIter x) Q E s₁) E s := by
  unfold evIter at he
  split at he
  · split at he
    · rename_i f args hr
      obtain ⟨hf, p, pos, rfl⟩ := rangeCall_eq hr
      split at he
      · rename_i hg
        obtain ⟨q, h1, he1⟩ := Option.bind_eq_some_iff.mp he
        obtain ⟨lh, h2, he2⟩ := Option.map_eq_some_iff.mp he1
        cases he2
        simp only [isGlobalB, Bool.and_eq_true, beq_iff_eq, Option.isNone_iff_eq_none, Bool.not_eq_true'] at hg
        have hb : bval f = some (.type "range") := by rw [hf]; decide +kernel
        show wpAny _ _ (eval (.Name f p) env >>= fun fv => callWith pos fv [] (backTo pos (starEach args env)) []) _ _ _
        refine wpAny_bind (global_ok B G hg.1.1 (by rw [hf]; decide +kernel) (.inr ⟨hg.1.2, hg.2, _, hb, ?_⟩))
        refine callVal_ok R room (.inr ⟨_, rfl⟩) h1 G fun ws h' tk σ' wr' vs' ex => ?_
        -- the range's two ends
        have fin : ∀ (lo hi : Int) (t u v : Tok) (tk' : Nat), z ≤ tk' → lo.natAbs ≤ 2 ^ 40 → hi.natAbs ≤ 2 ^ 40 → rangeV lo hi = rangeV lh.1 lh.2 →
            wpAny (model prog w) A (pyIter (.ref h'.objs.size)) Q E { s with heap := h'.push { cls := .type "range", data := .fields #[.int lo t, .int hi u, .int 1 v] }, toks := tk' } := by
          intro lo hi t u v tk' ht' l1 l2 hit
          refine wpAny_pyIter_range (a := lo) (b := hi) (c := 1) (t := t) (u := u) (v := v) (Heap.get?_push_size _ rfl) (range_small l1 l2) ?_
          rw [rangeSize_eq]
          refine k _ _ ⟨tk', ht'⟩ σ' ((wr'.push _).push _) ?_ ((ex.trans (Ext.push ..)).trans (Ext.push ..)) ?_
          · rw [← hit]
            exact It.range (k := (hi - lo).toNat) (lo := lo) (Heap.get?_push_size _ rfl)
          · refine fresh_of ex ?_
            cases q9 : h'.get? (h'.push { cls := .type "range", data := .fields #[.int lo t, .int hi u, .int 1 v] }).objs.size with
            | none => rfl
            | some o => have := Heap.lt_size q9; rw [Heap.size_push] at this; exact absurd this (Nat.not_lt.mpr (Nat.le_succ _))
        unfold rangeArgs at h2
        split at h2
        · rename_i nn heq
          split at h2
          · rename_i hl
            cases h2
            rw [heq] at vs'
            obtain ⟨wv, rfl, hv⟩ := list_one vs'
            cases hv
            exact lift (Tok1.pos tk) (call_range_1 fun hh => fin _ _ _ _ _ _ hh (by decide) hl rfl)
          · cases h2
        · rename_i mm nn heq
          split at h2
          · rename_i hl
            cases h2
            rw [heq] at vs'
            cases vs' with | cons hm r =>
            cases r with | cons hn r =>
            cases r
            cases hm; cases hn
            exact lift (Tok1.pos tk) (call_range_2 fun hh => fin _ _ _ _ _ _ hh hl.1 hl.2 rfl)
          · cases h2
        · cases h2
      · cases he
    · obtain ⟨p, h1, he1⟩ := Option.bind_eq_some_iff.mp he
      obtain ⟨q, h2, he2⟩ := Option.map_eq_some_iff.mp he1
      cases he2
      refine R.ok e κ ρ H p.1 p.2 h1 A ω W env σ s _ E room G fun w1 h1' tk1 σ1 wr1 v1 e1 => ?_
      refine lift (Tok1.pos tk1) (items_ok (b := b) h2 v1 wr1 fun it h' tk wr' hi ex hn htk => ?_)
      exact k it h' ⟨tk, htk⟩ σ1 wr' hi (e1.trans ex) (fresh_of e1 hn)
  · cases he
end
end Mine
end

section
set_option autoImplicit false
set_option maxRecDepth 100000
namespace Mine
open PySem PyProof.Rows
section
variable {z : Nat} {prog : Program} {w : World} {hT : Heap} {σ₀ : List Addr} {b n : Nat} {g : Glob} {A : Around} {E : Value → Shared → Prop} {s : Shared} {σ : List Addr} {H : Hp} {κ : Kap} {ω : Str → Bool} {ρ : Rho} {W : List Addr} {env : Env}

theorem exs_ok {recS : RecS} (RS : RecSOK z prog w hT σ₀ b n κ ω recS) (room : Room A n) : ∀ {body : List Stmt} {ρ ρ' : Rho} {H H' : Hp} {fl : Fl} {σ : List Addr} {s : Shared} {Q : Flow → Shared → Prop}, exs recS body ρ H = some (fl, ρ', H') →
    Good hT σ₀ κ ω ρ W env b σ H s.heap → KontS z hT σ₀ b κ ω W env σ fl ρ' H' Q s → (ht : z ≤ s.toks := by first | assumption | exact Tok1.pos _ | exact Nat.zero_le _) → wpAny (model prog w) A (execs body env) Q E s
  | [], ρ, ρ', H, H', fl, σ, s, Q, he, G, k, ht => by
    simp [exs] at he
    obtain ⟨rfl, rfl, rfl⟩ := he
    exact wpAny_execs_nil (k .next s.heap ⟨s.toks, ht⟩ σ G .next (Ext.refl ..))
  | st :: r, ρ, ρ', H, H', fl, σ, s, Q, he, G, k, ht => by
    unfold exs at he
    obtain ⟨q, h1, he1⟩ := Option.bind_eq_some_iff.mp he
    obtain ⟨f1, ρ1, H1⟩ := q
    refine wpAny_execs_cons (RS.ok st ρ H f1 ρ1 H1 h1 A W env σ s _ E room G fun fw h' tk σ' G' hf e' => ?_)
    cases f1 with
    | next =>
      cases hf
      exact exs_ok RS room he1 G' (k.after (tk := tk) e')
    | brk => cases hf; cases he1; exact k _ h' tk σ' G' .brk e'
    | cont => cases hf; cases he1; exact k _ h' tk σ' G' .cont e'
    | ret v => cases hf with | ret hv => cases he1; exact k _ h' tk σ' G' (.ret hv) e'

theorem It.cls {it : Addr} {c : Option Nat} {all rest : List V} {h : Heap} (x : It σ h it c all rest) : ∃ o T, h.get? it = some o ∧ o.cls = .type T ∧ (T = "list_iterator" ∨ T = "tuple_iterator" ∨ T = "str_ascii_iterator" ∨ T = "str_iterator" ∨ T = "range_iterator") := by
  cases x with
  | list _ q => obtain ⟨o, a, b, c⟩ := q; exact ⟨o, _, a, b, by simp⟩
  | tuple _ _ q => obtain ⟨o, a, b, c⟩ := q; exact ⟨o, _, a, b, by simp⟩
  | str ht q => obtain ⟨o, a, b, c⟩ := q; exact ⟨o, _, a, b, by rcases ht with rfl | rfl <;> simp⟩
  | range q => exact ⟨_, _, q, rfl, by simp⟩

theorem owned_ok {M : Model} {it : Addr} {c : Option Nat} {all rest : List V} {t : Expr} {v : Value} {Q : Unit → Shared → Prop} (x : It σ s.heap it c all rest) (k : Q () s) : wpAny M A (letOwnedTupleGo t (.ref it) v) Q E s := by
  obtain ⟨o, T, e1, e2, e3⟩ := x.cls
  unfold letOwnedTupleGo
  split
  case h_3 => exact wpAny_pure k
  all_goals
    cases v with
    | ref a =>
      refine wpAny_bind (wpAny_load e1 ?_)
      rw [e2]
      split
      · rename_i m vs heq _
        cases heq
        rw [if_neg (by rcases e3 with rfl | rfl | rfl | rfl | rfl <;> simp)]
        exact wpAny_pure k
      · exact wpAny_pure k
    | _ => exact wpAny_pure k

theorem wpAny_keepIt {W' : List Addr} {σ' : List Addr} {h h' : Heap} {it : Addr} {c : Option Nat} {all rest : List V} (x : It σ h it c all rest) (wr : WR hT σ H h) (e : Ext W' b σ h σ' h') (hw : ∀ a ∈ W', ∃ o, h.get? a = some o ∧ (∀ arr n, o.data ≠ .seq arr n)) (hit : it ∉ W') : It σ' h' it c all rest := by
  obtain ⟨o, eo, hd⟩ := x.obj
  exact x.keep e.prefix (e.tupsW wr hw) fun o' e' => e.keep it o' e' hit fun hm => wr.not_of_data eo hd (List.mem_of_mem_drop hm)

/-- a step that changes the iterator alone -/
theorem Good.iter {it : Addr} {h' : Heap} {o : Obj} (G : Good hT σ₀ κ ω ρ W env b σ H s.heap) (hs : Heap.SameBut it s.heap h') (ho : s.heap.get? it = some o) (hd : ∀ arr n, o.data ≠ .seq arr n) (ho' : ∃ o', h'.get? it = some o') (hW : it ∉ W)
    (hL : it ≠ env.locals) (hC : ∀ x c, (κ x = some .cell ∨ κ x = some .free) → env.cells.lookup x = some c → it ≠ c) (ht : hT.get? it = none) : Good hT σ₀ κ ω ρ W env b σ H h' := by
  have tu := tups_same hs ho hd
  refine ⟨G.wr.other hs ho hd ht, ⟨G.env.fn, G.env.kind, G.env.glob, G.env.blt, ?_, ?_, G.env.inj, G.env.own, G.env.loc, ?_⟩, G.base, G.above, G.wabove, G.tab⟩
  · obtain ⟨m, hm, hv⟩ := G.env.ns
    refine ⟨m, hm.sameBut hs (Ne.symm hL), fun y v hk hy => ?_⟩
    obtain ⟨wv, e1, e2⟩ := hv y v hk hy
    exact ⟨wv, e1, e2.mono (prefix_same _) tu⟩
  · intro y hy
    obtain ⟨c, v₀, e1, e2, e3⟩ := G.env.cell y hy
    refine ⟨c, v₀, e1, e2.sameBut hs (Ne.symm (hC y c hy e1)), fun v hv => ?_⟩
    obtain ⟨wv, e4, e5⟩ := e3 v hv
    exact ⟨wv, e4, e5.mono (prefix_same _) tu⟩
  · intro a ha
    obtain ⟨oa, e1, e2⟩ := G.env.wobj a ha
    exact ⟨oa, (hs.2 a fun q => hW (by rw [← q]; exact ha)).trans e1, e2⟩

theorem loopS_cons {c : Option Nat} {all xs : List V} {f : V → Rho → Hp → Option (Fl × Rho × Hp)} {x : V} {ρ ρ' : Rho} {H H' : Hp} {fl : Fl} (h : loopS c all f (x :: xs) ρ H = some (fl, ρ', H')) :
    chk c all H = true ∧ ∃ f1 ρ1 H1, f x ρ H = some (f1, ρ1, H1) ∧ (((f1 = .next ∨ f1 = .cont) ∧ loopS c all f xs ρ1 H1 = some (fl, ρ', H')) ∨ (f1 = .brk ∧ fl = .next ∧ ρ' = ρ1 ∧ H' = H1) ∨ ∃ v, f1 = .ret v ∧ fl = .ret v ∧ ρ' = ρ1 ∧ H' = H1) := by
  unfold loopS at h
  split at h
  · rename_i hc
    obtain ⟨q, h1, he1⟩ := Option.bind_eq_some_iff.mp h
    obtain ⟨f1, ρ1, H1⟩ := q
    refine ⟨hc, f1, ρ1, H1, h1, ?_⟩
    cases f1 with
    | next => exact .inl ⟨.inl rfl, he1⟩
    | cont => exact .inl ⟨.inr rfl, he1⟩
    | brk => cases he1; exact .inr (.inl ⟨rfl, rfl, rfl, rfl⟩)
    | ret v => cases he1; exact .inr (.inr ⟨v, rfl, rfl, rfl, rfl⟩)
  · cases h

/-- a for's turns -/
theorem for_turns {recS : RecS} (RS : RecSOK z prog w hT σ₀ b n κ ω recS) (room : Room A n) {t : Expr} {body : List Stmt} {it : Addr} {c : Option Nat} {all : List V} {fl : Fl} {ρ' : Rho} {H' : Hp} {hs : Heap} {σs : List Addr} {Q : Flow → Shared → Prop}
    (hitW : it ∉ W) (hitL : it ≠ env.locals) (hitC : ∀ x c, (κ x = some .cell ∨ κ x = some .free) → env.cells.lookup x = some c → it ≠ c) (hitT : hT.get? it = none) (hits : hs.get? it = none)
    (k : ∀ fw h' (tk : Tok1 z) σ', Good hT σ₀ κ ω ρ' W env b σ' H' h' → FR σ' h' fl fw → Ext W b σs hs σ' h' → Q fw { s with heap := h', toks := tk.n }) :
    ∀ {rest : List V} {ρ : Rho} {H : Hp} {σ : List Addr} {h : Heap} {tk : Tok1 z}, loopS c all (fun x ρ h => (bindT ω t x ρ).bind fun ρ' => exs recS body ρ' h) rest ρ H = some (fl, ρ', H') →
      Good hT σ₀ κ ω ρ W env b σ H h → It σ h it c all rest → Ext W b σs hs σ h →
      codeAny (model prog w) A (.forLoop t (.ref it) body [] env) (fun r s' => match r with | .ok f => Q f s' | .error e => cameBackBy (model prog w) A env E e s') { s with heap := h, toks := tk.n } := by
  intro rest ρ H σ h tk he G hi ex
  refine codeAny_loop' rfl (fun m s₁ => ∃ rest ρ H σ h, ∃ tk : Tok1 z, m = rest.length ∧ s₁ = { s with heap := h, toks := tk.n } ∧ loopS c all (fun x ρ h => (bindT ω t x ρ).bind fun ρ' => exs recS body ρ' h) rest ρ H = some (fl, ρ', H') ∧
      Good hT σ₀ κ ω ρ W env b σ H h ∧ It σ h it c all rest ∧ Ext W b σs hs σ h) ?_ rest.length ⟨rest, ρ, H, σ, h, tk, rfl, rfl, he, G, hi, ex⟩
  rintro m s₁ ⟨rest, ρ, H, σ, h, tk, rfl, rfl, he, G, hi, ex⟩
  show wpAny _ _ ((forTurn t (.ref it) body [] env).onRaise (fun x => do noteFrame x env; theTreesLotGoes x)) _ _ _
  refine wpAny_noted ?_
  simp only [forTurn]
  have hA : Around.under A (.forLoop t (.ref it) body [] env) = A := Around.under_of_weight rfl
  rw [hA]
  refine wpAny_bind (wpAny_standAt (wpAny_bind (wpAny_onRaise ?_)))
  obtain ⟨o, eo, hd⟩ := hi.obj
  cases rest with
  | nil =>
    unfold loopS at he
    split at he
    · rename_i hc
      cases he
      refine next_end (s := { s with heap := h, toks := tk.n }) room.hh hi hc G.wr fun h' hx => ?_
      refine wpAny_pure (.inr ⟨rfl, codeAny_block (wpAny_execs_nil ?_)⟩)
      -- what the frame knows stands
      have kk : ∀ a o, h.get? a = some o → a ≠ it → h'.get? a = some o := fun a o e q => hx a o q e
      have tu : Tups h h' := fun a o' e' _ d' => kk a o' e' fun q => by
        subst q
        rw [eo] at e'; cases e'
        obtain ⟨arr, n, d⟩ := d'
        exact hd arr n d
      have hwr : WR hT σ H' h' := ⟨G.wr.len, fun a xs r e1 e2 => by
          obtain ⟨arr, p, v, l⟩ := G.wr.obj a xs r e1 e2
          refine ⟨arr, p.at fun o' e' => kk _ _ e' fun q => ?_, v.mono (prefix_same _) tu, l⟩
          subst q
          exact G.wr.not_of_data eo hd (List.mem_of_getElem? e2), G.wr.nodup, fun a o' e' => kk _ _ (G.wr.top a o' e') fun q => by subst q; rw [hitT] at e'; cases e'⟩
      have hG : Good hT σ₀ κ ω ρ' W env b σ H' h' := by
        refine ⟨hwr, ⟨G.env.fn, G.env.kind, G.env.glob, G.env.blt, ?_, ?_, G.env.inj, G.env.own, G.env.loc, ?_⟩, G.base, G.above, G.wabove, G.tab⟩
        · obtain ⟨m, ⟨oL, es, ep, e1, e2⟩, hv⟩ := G.env.ns
          refine ⟨m, ⟨oL, es, ep, kk _ _ e1 (Ne.symm hitL), e2⟩, fun y v hk hy => ?_⟩
          obtain ⟨wv, f1, f2⟩ := hv y v hk hy
          exact ⟨wv, f1, f2.mono (prefix_same _) tu⟩
        · intro y hy
          obtain ⟨c', v₀, e1, ⟨oc, e2, e2'⟩, e3⟩ := G.env.cell y hy
          refine ⟨c', v₀, e1, ⟨oc, kk _ _ e2 (Ne.symm (hitC y c' hy e1)), e2'⟩, fun v hv => ?_⟩
          obtain ⟨wv, f4, f5⟩ := e3 v hv
          exact ⟨wv, f4, f5.mono (prefix_same _) tu⟩
        · intro a ha
          obtain ⟨oa, e1, e2⟩ := G.env.wobj a ha
          exact ⟨oa, kk _ _ e1 fun q => hitW (by rw [← q]; exact ha), e2⟩
      refine k .next h' tk σ hG .next ⟨ex.pre, fun a o' e' => ?_, fun a o' e' hw hdr => ?_⟩
      · obtain ⟨o2, e2⟩ := ex.there a o' e'
        exact ⟨o2, kk _ _ e2 fun q => by subst q; rw [hits] at e'; cases e'⟩
      · exact kk _ _ (ex.keep a o' e' hw hdr) fun q => by subst q; rw [hits] at e'; cases e'
    · cases he
  | cons x xs =>
    obtain ⟨hc, f1, ρ1, H1, h1, hcase⟩ := loopS_cons he
    obtain ⟨ρ2, hb, hb2⟩ := Option.bind_eq_some_iff.mp h1
    refine lift (Tok1.pos tk) (next_item (s := { s with heap := h, toks := tk.n }) hi hc G.wr fun wv h' tk' hv hi' hsb htk => ?_)
    obtain ⟨o', eo', hd'⟩ := hi'.obj
    have G' : Good hT σ₀ κ ω ρ W env b σ H h' := Good.iter (s := { s with heap := h, toks := tk.n }) G hsb eo hd ⟨o', eo'⟩ hitW hitL hitC hitT
    have ex' : Ext W b σs hs σ h' := ⟨ex.pre, fun a q e => by
        obtain ⟨o2, e2⟩ := ex.there a q e
        exact there_same hsb eo' a o2 e2, fun a q e hw hdr => (hsb.2 a fun q' => by subst q'; rw [hits] at e; cases e).trans (ex.keep a q e hw hdr)⟩
    refine wpAny_bind (owned_ok (s := { s with heap := h', toks := tk' }) hi' (wpAny_bind (lift htk (assign_ok (s := { s with heap := h', toks := tk' }) hb room.hh G' hv fun h2 tk2 G2 e2 ht2 => ?_))))
    have hi2 := wpAny_keepIt hi' G'.wr e2 G'.env.wobj hitW
    refine wpAny_bind (exs_ok (s := { s with heap := h2, toks := tk2 }) RS room hb2 G2 fun fw h3 tk3 σ3 G3 hf e3 => ?_)
    have hi3 := wpAny_keepIt hi2 G2.wr e3 G2.env.wobj hitW
    have ex3 := (ex'.trans e2).trans e3
    rcases hcase with ⟨hn, hl⟩ | ⟨rfl, rfl, rfl, rfl⟩ | ⟨v, rfl, rfl, rfl, rfl⟩
    · have again : wpAny (model prog w) A (again (.forLoop t (.ref it) body [] env)) (fun fin s' => match fin with
          | .done f => (match (Except.ok f : Result) with | .ok f => Q f s' | .error e => cameBackBy (model prog w) A env E e s')
          | .again c' => (c' = .forLoop t (.ref it) body [] env ∧ ∃ m, m < (x :: xs).length ∧ ∃ rest ρ H σ h, ∃ tk : Tok1 z, m = rest.length ∧ s' = { s with heap := h, toks := tk.n } ∧ loopS c all (fun x ρ h => (bindT ω t x ρ).bind fun ρ' => exs recS body ρ' h) rest ρ H = some (fl, ρ', H') ∧
            Good hT σ₀ κ ω ρ W env b σ H h ∧ It σ h it c all rest ∧ Ext W b σs hs σ h) ∨ (c'.quiet = true ∧ codeAny (model prog w) A c' (fun r s' => match r with | .ok f => Q f s' | .error e => cameBackBy (model prog w) A env E e s') s'))
          (notedBy (model prog w) A env fun e s' => cameBackBy (model prog w) A env E e s') { s with heap := h3, toks := tk3.n } :=
        wpAny_pure (.inl ⟨rfl, xs.length, by simp, xs, ρ1, H1, σ3, h3, tk3, rfl, rfl, hl, G3, hi3, ex3⟩)
      rcases hn with rfl | rfl
      · cases hf; exact again
      · cases hf; exact again
    · cases hf; exact wpAny_pure (k .next h3 tk3 σ3 G3 .next ex3)
    · cases hf with | ret hv => exact wpAny_pure (k _ h3 tk3 σ3 G3 (.ret hv) ex3)
end
end Mine
end

section
set_option autoImplicit false
set_option maxRecDepth 100000
namespace Mine
open PySem PyProof.Rows

theorem get_ge {h : Heap} {a : Addr} (ha : h.objs.size ≤ a) : h.get? a = none := by
  cases q : h.get? a with
  | none => rfl
  | some o => exact absurd (Heap.lt_size q) (Nat.not_lt.mpr ha)


/-! ### a comprehension's frame -/
noncomputable def closOf (cells : List (Str × Addr)) : List (Str × NameKind) → List (Str × Addr) → List (Str × Addr)
  | [], acc => acc
  | (x, k) :: r, acc => if k == .free then closOf cells r ((x, (cells.lookup x).getD 0) :: acc) else closOf cells r acc

theorem clos_mem {cells : List (Str × Addr)} : ∀ {names : List (Str × NameKind)} {acc : List (Str × Addr)} {x : Str} {c : Addr}, (x, c) ∈ closOf cells names acc → (x, c) ∈ acc ∨ ((x, NameKind.free) ∈ names ∧ c = (cells.lookup x).getD 0)
  | [], _, _, _, h => .inl h
  | (y, k) :: r, acc, x, c, h => by
    unfold closOf at h
    split at h
    · rename_i hk
      rcases clos_mem h with q | ⟨q1, q2⟩
      · rcases List.mem_cons.mp q with e | e
        · cases e; exact .inr ⟨by rw [beq_iff_eq.mp hk]; exact List.mem_cons_self, rfl⟩
        · exact .inl e
      · exact .inr ⟨List.mem_cons_of_mem _ q1, q2⟩
    · rcases clos_mem h with q | ⟨q1, q2⟩
      · exact .inl q
      · exact .inr ⟨List.mem_cons_of_mem _ q1, q2⟩
theorem clos_has {cells : List (Str × Addr)} {x : Str} : ∀ (names : List (Str × NameKind)) (acc : List (Str × Addr)), (acc.lookup x).isSome = true ∨ (x, NameKind.free) ∈ names → ((closOf cells names acc).lookup x).isSome = true
  | [], _, h => by
    rcases h with h | h
    · exact h
    · cases h
  | (y, k) :: r, acc, h => by
    unfold closOf
    split
    · refine clos_has r _ ?_
      rcases h with h | h
      · left
        rw [List.lookup_cons]
        split
        · rfl
        · exact h
      · rcases List.mem_cons.mp h with e | e
        · left
          cases e
          simp
        · exact .inr e
    · rename_i hk
      refine clos_has r _ ?_
      rcases h with h | h
      · exact .inl h
      · rcases List.mem_cons.mp h with e | e
        · cases e; exact (hk rfl).elim
        · exact .inr e

theorem cells_append : ∀ (names : List (Str × NameKind)) (n : Nat) (acc : List (Str × Addr)), cellsFrom n names acc = cellsFrom n names [] ++ acc
  | [], _, _ => by simp [cellsFrom]
  | (y, k) :: r, n, acc => by
    unfold cellsFrom
    split
    · rw [cells_append r (n + 1) ((y, n) :: acc), cells_append r (n + 1) [(y, n)]]; simp
    · exact cells_append r n acc
theorem cells_kind : ∀ {names : List (Str × NameKind)} {n : Nat} {acc : List (Str × Addr)} {x : Str} {c : Addr}, (x, c) ∈ cellsFrom n names acc → (x, c) ∈ acc ∨ (x, NameKind.cell) ∈ names
  | [], _, _, _, _, h => .inl h
  | (y, k) :: r, n, acc, x, c, h => by
    unfold cellsFrom at h
    split at h
    · rename_i hk
      rcases cells_kind h with q | q
      · rcases List.mem_cons.mp q with e | e
        · cases e; exact .inr (by rw [beq_iff_eq.mp hk]; exact List.mem_cons_self)
        · exact .inl e
      · exact .inr (List.mem_cons_of_mem _ q)
    · rcases cells_kind h with q | q
      · exact .inl q
      · exact .inr (List.mem_cons_of_mem _ q)
theorem cells_has {x : Str} : ∀ (names : List (Str × NameKind)) (n : Nat) (acc : List (Str × Addr)), (acc.lookup x).isSome = true ∨ (x, NameKind.cell) ∈ names → ((cellsFrom n names acc).lookup x).isSome = true
  | [], _, _, h => by
    rcases h with h | h
    · exact h
    · cases h
  | (y, k) :: r, n, acc, h => by
    unfold cellsFrom
    split
    · refine cells_has r _ _ ?_
      rcases h with h | h
      · left
        rw [List.lookup_cons]
        split
        · rfl
        · exact h
      · rcases List.mem_cons.mp h with e | e
        · left
          cases e
          simp
        · exact .inr e
    · rename_i hk
      refine cells_has r _ _ ?_
      rcases h with h | h
      · exact .inl h
      · rcases List.mem_cons.mp h with e | e
        · cases e; exact (hk rfl).elim
        · exact .inr e

theorem lookup_map_kind (f : Str → NameKind → NameKind) (x : Str) : ∀ (names : List (Str × NameKind)), (names.map fun p => (p.1, f p.1 p.2)).lookup x = (names.lookup x).map (f x)
  | [] => rfl
  | (y, k) :: r => by
    rw [List.map_cons, List.lookup_cons, List.lookup_cons, lookup_map_kind f x r]
    cases h : x == y with
    | true => rw [beq_iff_eq.mp h]; rfl
    | false => rfl

section
variable {M : Model} {A : Around} {E : Value → Shared → Prop} {s : Shared} {env : Env}

theorem clos_walk (f : Str × NameKind → List (Str × Addr) → Sem (ForInStep (List (Str × Addr))))
    (hf : ∀ name kind cs, f (name, kind) cs = if kind == .free then (do let c ← cellOf env name; pure (.yield ((name, c) :: cs))) else pure (.yield cs)) :
    ∀ (names : List (Str × NameKind)) (acc : List (Str × Addr)) (Q : List (Str × Addr) → Shared → Prop), (∀ p ∈ names, p.2 = .free → (env.cells.lookup p.1).isSome = true) → Q (closOf env.cells names acc) s → wpAny M A (forIn names acc f) Q E s
  | [], acc, Q, _, h => by rw [List.forIn_nil]; exact wpAny_pure h
  | (x, k) :: r, acc, Q, hall, h => by
    rw [List.forIn_cons, hf]
    unfold closOf at h
    split at h
    · rename_i hk
      rw [if_pos hk]
      obtain ⟨c, hc⟩ := Option.isSome_iff_exists.mp (hall (x, k) List.mem_cons_self (beq_iff_eq.mp hk))
      refine wpAny_bind (wpAny_bind (wpAny_cellOf hc (wpAny_pure ?_)))
      refine clos_walk f hf r _ Q (fun p hp => hall p (List.mem_cons_of_mem _ hp)) ?_
      rw [hc] at h
      exact h
    · rename_i hk
      rw [if_neg hk]
      exact wpAny_bind (wpAny_pure (clos_walk f hf r _ Q (fun p hp => hall p (List.mem_cons_of_mem _ hp)) h))

theorem closure_ok {scope : Scope} {Q : List (Str × Addr) → Shared → Prop} (hall : ∀ p ∈ scope.names, p.2 = .free → (env.cells.lookup p.1).isSome = true) (h : Q (closOf env.cells scope.names []) s) : wpAny M A (closureFor scope env) Q E s := by
  simp only [closureFor]
  refine wpAny_bind (clos_walk _ (fun name kind cs => by cases hk : kind == NameKind.free <;> simp [hk]) _ _ _ hall ?_)
  exact wpAny_pure h

theorem newEnv_ok {scope : Scope} {globals : Addr} {clo : List (Str × Addr)} {qual : Str} {Q : Env → Shared → Prop}
    (h : Q { scope, locals := s.heap.objs.size, globals, cells := cellsFrom (s.heap.objs.size + 1) scope.names clo, qual, func := none, code := env.code, frame := env.frame, builtins := env.builtins }
      { s with heap := pushCells (s.heap.push { cls := .type "dict", data := .dict #[] }) scope.names }) : wpAny M A (newFunctionEnv scope globals clo [] qual none .none (some env)) Q E s := by
  simp only [newFunctionEnv, Option.isSome_some, if_true]
  refine wpAny_bind (wpAny_alloc ?_)
  refine wpAny_bind (wpAny_layCells _ (fun name kind cells => by cases hkc : kind == NameKind.cell <;> simp [hkc]) _ _ _ _ ?_)
  rw [show ({ s with heap := s.heap.push { cls := .type "dict", data := .dict #[] } } : Shared).heap.objs.size = s.heap.objs.size + 1 from Heap.size_push ..]
  refine wpAny_bind ?_
  rw [List.forIn_nil]
  exact wpAny_pure (wpAny_pure h)

/-- the scope in which a comprehension's parts stand -/
noncomputable def compScope (scope : Scope) (env : Env) : Scope := { scope with names := scope.names.map fun (n, k) => if k == .free && env.scope.kind == .function && env.kindOf n == some .cell then (n, .cell) else (n, k) }

theorem comp_rule {e : Expr} {scope : Scope} {pos : Pos} {newAcc first : Sem Value} {g : Comprehension} {gs : List Comprehension} {Q : Value → Shared → Prop} {use : Option (Value → Sem Unit)}
    (hcl : clausesOf e = g :: gs) (hs : ∀ x, foldedSetIterable g.iter env x = pure x) (hkind : scope.kind = .function) (hnames : ∀ x ∈ scope.names, x.2 = .local → (compScope scope env).names.lookup x.1 = some .local)
    (h : wpAny M A first (fun x s₁ => wpAny M A (pyIter x) (fun it s₂ => wpAny M A newAcc (fun acc s₃ => wpAny M A (closureFor scope env) (fun clo s₄ =>
      wpAny M A (newFunctionEnv scope env.globals clo [] env.qual none .none (some env)) (fun cenv s₅ =>
        codeAny M A (.compStart e 0 it acc { cenv with scope := compScope scope env }) (fun r s' => ∃ m, s'.heap.Ns cenv.locals m ∧
          match r, use with
          | .ok _, none => ∀ h' m', h'.Ns cenv.locals m' → Heap.SameBut cenv.locals s'.heap h' → Q acc { s' with heap := h' }
          | .ok _, some u => wpAny M A (u acc) (fun _ s'' => ∃ m, s''.heap.Ns cenv.locals m ∧ ∀ h' m', h'.Ns cenv.locals m' → Heap.SameBut cenv.locals s''.heap h' → Q .none { s'' with heap := h' }) E s'
          | .error _, _ => False) s₅) E s₄) E s₃) E s₂) E s₁) E s) :
    wpAny M A (comprehension e scope env pos newAcc false first use) Q E s := by
  unfold comprehension
  rw [hcl]
  refine wpAny_bind (wpAny_mono h (fun x s₁ h₁ => wpAny_bind (wpAny_standAt (wpAny_bind (wpAny_of_eq (hs x) (wpAny_bind (wpAny_holding (wpAny_mono h₁ (fun it s₂ h₂ =>
    wpAny_standIf (wpAny_bind (wpAny_mono h₂ (fun acc s₃ h₃ => wpAny_bind (wpAny_mono h₃ (fun clo s₄ h₄ => wpAny_bind (wpAny_mono h₄ (fun cenv s₅ h₅ => ?_) fun _ _ h' => h')) fun _ _ h' => h')) fun _ _ h' => h')))
      fun _ _ h' => h'))))))) fun _ _ h' => h')
  dsimp only
  have hv : ∀ vs : List (Str × NameKind), (∀ x ∈ vs, x ∈ scope.names) → ∀ x ∈ vs, x.2 = .local → Env.kindOf { cenv with scope := compScope scope env } x.1 = some .local := fun vs hvs x hx hl => hnames x (hvs x hx) hl
  have hsub : ∀ x ∈ (scope.names.filter fun x => (x.2 == .local || x.2 == .cell) && x.1 != (".0" : Str)).reverse, x ∈ scope.names := fun x hx => (List.mem_filter.mp (List.mem_reverse.mp hx)).1
  refine wpAny_holding (wpAny_bind (wpAny_attempt (wpAny_holding (wpAny_run (codeAny_mono h₅ fun r s' hr => ?_)))))
  obtain ⟨m, hn, hr⟩ := hr
  cases r with
  | ok f =>
    cases use with
    | none => exact wpAny_bind (wpAny_holding (wpAny_comp_letGo (cenv := { cenv with scope := compScope scope env }) hkind _ s' m (hv _ hsub) hn fun h' m' hm' hs' => wpAny_pure (hr h' m' hm' hs')))
    | some u =>
      refine wpAny_bind (wpAny_rule (wpAny_bind (wpAny_holding (wpAny_mono hr (fun _ s'' h'' => ?_) fun _ _ h' => h'))))
      obtain ⟨m2, hn2, hq⟩ := h''
      refine wpAny_bind (wpAny_comp_letGo (cenv := { cenv with scope := compScope scope env }) hkind _ s'' m2 (hv _ fun x hx => ?_) hn2 fun h' m' hm' hs' => wpAny_pure (hq h' m' hm' hs'))
      rcases List.mem_append.mp hx with q | q
      · exact hsub x (List.mem_of_mem_drop q)
      · exact hsub x (List.mem_of_mem_take q)
  | error x => exact hr.elim
end
end Mine
end

section
set_option autoImplicit false
set_option maxRecDepth 100000
namespace Mine
open PySem PyProof.Rows
section
variable {z : Nat} {prog : Program} {w : World} {hT : Heap} {σ₀ : List Addr} {b n : Nat} {g : Glob} {A : Around} {E : Value → Shared → Prop} {s : Shared} {σ : List Addr} {H : Hp} {κ : Kap} {ω : Str → Bool} {ρ : Rho} {W : List Addr} {env : Env}

theorem ifs_false {M : Model} {Q : Bool → Shared → Prop} (f : Expr → Bool → Sem (ForInStep Bool)) (hf : ∀ c, f c false = pure (.yield false)) (h : Q false s) : ∀ es : List Expr, wpAny M A (forIn es false f) Q E s
  | [] => by rw [List.forIn_nil]; exact wpAny_pure h
  | e :: r => by
    rw [List.forIn_cons, hf]
    exact wpAny_bind (wpAny_pure (ifs_false f hf h r))
theorem ifs_ok {recT : RecT} (RT : RecTOK z prog w hT σ₀ b n recT) (room : Room A n) (f : Expr → Bool → Sem (ForInStep Bool)) (hf0 : ∀ c, f c false = pure (.yield false)) (hf1 : ∀ c, f c true = (isTrue c env (eval c env) >>= fun r => pure (.yield r))) :
    ∀ {es : List Expr} {t : Bool} {H H' : Hp} {σ : List Addr} {s : Shared} {Q : Bool → Shared → Prop}, tsts recT κ ρ es H = some (t, H') → Good hT σ₀ κ ω ρ W env b σ H s.heap → KontB z hT b σ t H' Q s → (ht : z ≤ s.toks := by first | assumption | exact Tok1.pos _ | exact Nat.zero_le _) → wpAny (model prog w) A (forIn es true f) Q E s
  | [], t, H, H', σ, s, Q, he, G, k, ht => by
    simp [tsts] at he
    obtain ⟨rfl, rfl⟩ := he
    rw [List.forIn_nil]
    exact wpAny_pure (k s.heap ⟨s.toks, ht⟩ σ G.wr (Ext.refl ..))
  | e :: r, t, H, H', σ, s, Q, he, G, k, ht => by
    unfold tsts at he
    obtain ⟨p, h1, he1⟩ := Option.bind_eq_some_iff.mp he
    rw [List.forIn_cons, hf1]
    refine wpAny_bind (wpAny_bind (RT.ok e κ ρ H p.1 p.2 h1 A ω W env σ s _ E room G fun h' tk σ' wr' ex => wpAny_pure ?_))
    obtain ⟨c, Hc⟩ := p
    cases c with
    | true => exact ifs_ok RT room f hf0 hf1 he1 (G.step wr' ex) (k.after (tk := tk) ex)
    | false => cases he1; exact ifs_false f hf0 (k h' tk σ' wr' ex) r

theorem compStart_ok {e : Expr} {depth : Nat} {it : Addr} {acc : Value} {c : Option Nat} {all rest : List V} {R : Result → Shared → Prop} (he : ∃ elt gens scope pos, e = .ListComp elt gens scope pos) (ha : ((clausesOf e)[depth]?).elim false (·.is_async != 0) = false) (hi : It σ s.heap it c all rest)
    (h : codeAny (model prog w) A (.compLoop e depth (.ref it) acc env) R s) : codeAny (model prog w) A (.compStart e depth (.ref it) acc env) R s := by
  obtain ⟨elt, gens, scope, pos, rfl⟩ := he
  refine codeAny_of_tree ?_
  show wpAny _ _ ((compStart (.ListComp elt gens scope pos) depth (.ref it) acc env).onRaise (fun x => do noteFrame x env; standAt theWindowsPlace)) _ _ s
  refine wpAny_notedAt ?_
  unfold compStart
  rw [ha]
  simp only [Bool.false_eq_true, if_false]
  refine wpAny_bind (wpAny_askSetting (wpAny_ite ?_))
  split
  · exact wpAny_pure (And.intro rfl h)
  · refine wpAny_bind (wpAny_rule ?_)
    split
    · exact wpAny_bind (wpAny_standAt (wpAny_bind (iter_self hi (wpAny_pure (And.intro rfl h)))))
    · exact wpAny_bind (iter_self hi (wpAny_pure (And.intro rfl h)))

theorem Good.weaken {ρ' : Rho} {h : Heap} (G : Good hT σ₀ κ ω ρ' W env b σ H h) (hsub : ∀ y v, ρ y = some v → ρ' y = some v) : Good hT σ₀ κ ω ρ W env b σ H h := by
  refine ⟨G.wr, ⟨G.env.fn, G.env.kind, G.env.glob, G.env.blt, ?_, ?_, G.env.inj, G.env.own, G.env.loc, G.env.wobj⟩, G.base, G.above, G.wabove, G.tab⟩
  · obtain ⟨m, hm, hv⟩ := G.env.ns
    exact ⟨m, hm, fun x v hx hy => hv x v hx (hsub x v hy)⟩
  · intro x hx
    obtain ⟨c, v₀, e1, e2, e3⟩ := G.env.cell x hx
    exact ⟨c, v₀, e1, e2, fun v hv => e3 v (hsub x v hv)⟩

theorem fresh_sub {t : Expr} {v : V} {ρ' : Rho} (hf : freshT t ρ = true) (hb : bindT ω t v ρ = some ρ') : ∀ y u, ρ y = some u → ρ' y = some u := by
  unfold freshT at hf
  split at hf
  · rename_i x p
    unfold bindT at hb
    dsimp only at hb
    split at hb
    · cases hb
      intro y u hy
      by_cases q : y = x
      · subst q; rw [Option.isNone_iff_eq_none.mp hf] at hy; cases hy
      · rw [upd_other _ _ q]; exact hy
    · cases hb
  · cases hf

theorem loopL_cons {c : Option Nat} {all xs : List V} {f : V → Hp → Option Hp} {x : V} {H H' : Hp} (h : loopL c all f (x :: xs) H = some H') : chk c all H = true ∧ ∃ H1, f x H = some H1 ∧ loopL c all f xs H1 = some H' := by
  unfold loopL at h
  split at h
  · rename_i hc
    obtain ⟨q, h1, he1⟩ := Option.bind_eq_some_iff.mp h
    exact ⟨hc, q, h1, he1⟩
  · cases h

theorem append_ok {acc : Nat} {r : Addr} {v : V} {wv : Value} {H' : Hp} {Q : Value → Shared → Prop} (he : appendTo acc v H = some H') (hb : b ≤ acc) (ha : σ[acc]? = some r) (hv : VR σ s.heap v wv) (wr : WR hT σ H s.heap) (habove : ∀ r ∈ σ.drop b, hT.get? r = none)
    (k : ∀ h', WR hT σ H' h' → Ext [] b σ s.heap σ h' → Q .none { s with heap := h' }) : wpAny (model prog w) A (call (.builtin "list.append") [.ref r, wv]) Q E s := by
  unfold appendTo at he
  obtain ⟨xs, h0, he1⟩ := Option.bind_eq_some_iff.mp he
  split at he1
  · rename_i hl0
    cases he1
    obtain ⟨arr, p, vx, hl⟩ := wr.obj acc xs _ h0 ha
    have hz := arr_of vx
    refine wpAny_list_append_plain p (fun h' p' hs' => ?_) (by rw [hz, sizeLine_val]; omega)
    have hvv : VRs σ s.heap (xs ++ [v]) (arr.push wv).toList := by rw [Array.toList_push]; exact vx.append (.cons hv .nil)
    exact k h' (wr.setL ha hs' p' hvv (by rw [List.length_append, sizeLine_val]; simp; omega) (habove _ (mem_drop_of ha hb))) (Ext.setL ha hb hs' p')
  · cases he1
end
end Mine
end

section
set_option autoImplicit false
set_option maxRecDepth 100000
namespace Mine
open PySem PyProof.Rows

/-- the small reading's turn of a comprehension -/
noncomputable def turnF (g : Glob) (rec : Rec) (recT : RecT) (ω : Str → Bool) (elt : Expr) (acc : Nat) (κ : Kap) (g1 : Comprehension) (rest : List Comprehension) (ρ : Rho) (x : V) (h : Hp) : Option Hp :=
  (bindT ω g1.target x ρ).bind fun ρ' => (tsts recT κ ρ' g1.ifs h).bind fun p => if p.1 then cgo g rec recT ω elt acc κ rest ρ' p.2 else some p.2

section
variable {z : Nat} {prog : Program} {w : World} {hT : Heap} {σ₀ : List Addr} {b n : Nat} {g : Glob} {A : Around} {κ : Kap} {ω : Str → Bool} {W : List Addr} {env : Env} {rec : Rec} {recT : RecT} {elt : Expr} {gens : List Comprehension} {scope : Scope} {pos : Pos} {acc : Nat} {r : Addr}

theorem drop_next {α : Type} {xs : List α} {i : Nat} {a : α} {rest : List α} (h : xs.drop i = a :: rest) : xs[i]? = some a ∧ xs[i + 1]? = rest.head? ∧ xs.drop (i + 1) = rest := by
  obtain ⟨h1, h2⟩ := drop_cons h
  refine ⟨h1, ?_, h2.symm⟩
  rw [h2, List.head?_drop]

/-- a loop's end: the iterator alone has changed -/
theorem loop_end {κ : Kap} {ω : Str → Bool} {W : List Addr} {env : Env} {ρ : Rho} {it : Addr} {H : Hp} {σ σs : List Addr} {h h' hs : Heap} {o : Obj} (G : Good hT σ₀ κ ω ρ W env b σ H h) (eo : h.get? it = some o) (hd : ∀ arr n, o.data ≠ .seq arr n) (hitW : it ∉ W) (hitL : it ≠ env.locals)
    (hitC : ∀ x c, (κ x = some .cell ∨ κ x = some .free) → env.cells.lookup x = some c → it ≠ c) (hitT : hT.get? it = none) (hits : hs.get? it = none) (ex : Ext W b σs hs σ h) (hx : Heap.ExtBut it h h') :
    Good hT σ₀ κ ω ρ W env b σ H h' ∧ Ext W b σs hs σ h' := by
  have kk : ∀ a o, h.get? a = some o → a ≠ it → h'.get? a = some o := fun a o e q => hx a o q e
  have tu : Tups h h' := fun a o' e' _ d' => kk a o' e' fun q => by
    subst q
    rw [eo] at e'; cases e'
    obtain ⟨arr, n, d⟩ := d'
    exact hd arr n d
  have hwr : WR hT σ H h' := ⟨G.wr.len, fun a xs r e1 e2 => by
      obtain ⟨arr, p, v, l⟩ := G.wr.obj a xs r e1 e2
      refine ⟨arr, p.at fun o' e' => kk _ _ e' fun q => ?_, v.mono (prefix_same _) tu, l⟩
      subst q
      exact G.wr.not_of_data eo hd (List.mem_of_getElem? e2), G.wr.nodup, fun a o' e' => kk _ _ (G.wr.top a o' e') fun q => by subst q; rw [hitT] at e'; cases e'⟩
  refine ⟨?_, ⟨ex.pre, fun a o' e' => ?_, fun a o' e' hw hdr => ?_⟩⟩
  · refine ⟨hwr, ⟨G.env.fn, G.env.kind, G.env.glob, G.env.blt, ?_, ?_, G.env.inj, G.env.own, G.env.loc, ?_⟩, G.base, G.above, G.wabove, G.tab⟩
    · obtain ⟨m, ⟨oL, es, ep, e1, e2⟩, hv⟩ := G.env.ns
      refine ⟨m, ⟨oL, es, ep, kk _ _ e1 (Ne.symm hitL), e2⟩, fun y v hk hy => ?_⟩
      obtain ⟨wv, f1, f2⟩ := hv y v hk hy
      exact ⟨wv, f1, f2.mono (prefix_same _) tu⟩
    · intro y hy
      obtain ⟨c', v₀, e1, ⟨oc, e2, e2'⟩, e3⟩ := G.env.cell y hy
      refine ⟨c', v₀, e1, ⟨oc, kk _ _ e2 (Ne.symm (hitC y c' hy e1)), e2'⟩, fun v hv => ?_⟩
      obtain ⟨wv, f4, f5⟩ := e3 v hv
      exact ⟨wv, f4, f5.mono (prefix_same _) tu⟩
    · intro a ha
      obtain ⟨oa, e1, e2⟩ := G.env.wobj a ha
      exact ⟨oa, kk _ _ e1 fun q => hitW (by rw [← q]; exact ha), e2⟩
  · obtain ⟨o2, e2⟩ := ex.there a o' e'
    exact ⟨o2, kk _ _ e2 fun q => by subst q; rw [hits] at e'; cases e'⟩
  · exact kk _ _ (ex.keep a o' e' hw hdr) fun q => by subst q; rw [hits] at e'; cases e'

/-- what a turn does behind its tests, and what follows -/
noncomputable def inner (elt : Expr) (gens : List Comprehension) (scope : Scope) (pos : Pos) (depth : Nat) (r : Addr) (env : Env) (kt : Sem Fin) (g' : Option Comprehension) : Sem Fin :=
  match g' with
  | some g' => do
    let x ← eval g'.iter env
    standAt g'.iter.pos
    if (g'.is_async != 0) = true then do
        let x ← foldedIterable g'.iter x
        let l ← holding [x] (if (g'.is_async != 0) = true then asyncIter x else pyIter x)
        let _ ← runOwn (Code.compStart (elt.ListComp gens scope pos) (depth + 1) l (Value.ref r) env) env
        kt
      else do
        let x ← foldedSetIterable g'.iter env x
        let l ← holding [x] (if (g'.is_async != 0) = true then asyncIter x else pyIter x)
        let _ ← runOwn (Code.compStart (elt.ListComp gens scope pos) (depth + 1) l (Value.ref r) env) env
        kt
  | none => (eval elt env >>= fun l => call (Value.builtin "list.append") [Value.ref r, l] >>= fun _ => pure ()) >>= fun _ => kt

theorem comp_level (B : Base prog w hT σ₀ n g) (R : RecOK z prog w hT σ₀ b n rec) (RT : RecTOK z prog w hT σ₀ b n recT) (room : Room A n) (rest : List Comprehension) {depth : Nat} {s : Shared}
    (hin : ∀ {ρ2 : Rho} {H2 H1 : Hp} {σ3 : List Addr} {h3 : Heap} {tk3 : Tok1 z} {Q : Fin → Shared → Prop} {E' : Value → Shared → Prop} {kt : Sem Fin}, cgo g rec recT ω elt acc κ rest ρ2 H2 = some H1 → Good hT σ₀ κ ω ρ2 W env b σ3 H2 h3 → σ3[acc]? = some r →
      (∀ h4 (tk4 : Tok1 z) σ4, Good hT σ₀ κ ω ρ2 W env b σ4 H1 h4 → Ext W b σ3 h3 σ4 h4 → wpAny (model prog w) A kt Q E' { s with heap := h4, toks := tk4.n }) → wpAny (model prog w) A (inner elt gens scope pos depth r env kt rest.head?) Q E' { s with heap := h3, toks := tk3.n })
    {g1 : Comprehension} {ρ : Rho} {it : Addr} {c : Option Nat} {all items : List V} {H H' : Hp} {σ σs : List Addr} {h hs : Heap} {tk : Tok1 z} {RR : Result → Shared → Prop}
    (hdrop : gens.drop depth = g1 :: rest) (has : g1.is_async = 0) (hfr : freshT g1.target ρ = true) (hitW : it ∉ W) (hitL : it ≠ env.locals) (hitC : ∀ x c, (κ x = some .cell ∨ κ x = some .free) → env.cells.lookup x = some c → it ≠ c) (hitT : hT.get? it = none) (hits : hs.get? it = none)
    (he : loopL c all (turnF g rec recT ω elt acc κ g1 rest ρ) items H = some H') (G : Good hT σ₀ κ ω ρ W env b σ H h) (hi : It σ h it c all items) (ex : Ext W b σs hs σ h) (hr : σ[acc]? = some r)
    (k : ∀ h' (tk : Tok1 z) σ', Good hT σ₀ κ ω ρ W env b σ' H' h' → Ext W b σs hs σ' h' → σ'[acc]? = some r → RR (.ok .next) { s with heap := h', toks := tk.n }) :
    codeAny (model prog w) A (.compLoop (.ListComp elt gens scope pos) depth (.ref it) (.ref r) env) RR { s with heap := h, toks := tk.n } := by
  obtain ⟨hg1, hg2, hg3⟩ := drop_next hdrop
  refine codeAny_loop' rfl (fun m s₁ => ∃ items H σ h, ∃ tk : Tok1 z, m = items.length ∧ s₁ = { s with heap := h, toks := tk.n } ∧ loopL c all (turnF g rec recT ω elt acc κ g1 rest ρ) items H = some H' ∧
    Good hT σ₀ κ ω ρ W env b σ H h ∧ It σ h it c all items ∧ Ext W b σs hs σ h ∧ σ[acc]? = some r) ?_ items.length ⟨items, H, σ, h, tk, rfl, rfl, he, G, hi, ex, hr⟩
  rintro m s₁ ⟨items, H, σ, h, tk, rfl, rfl, he, G, hi, ex, hr⟩
  show wpAny _ _ ((compTurn (.ListComp elt gens scope pos) depth (.ref it) (.ref r) env).onRaise (fun x => do noteFrame x env; theTreesLotGoes x)) _ _ _
  refine wpAny_noted ?_
  have hA : Around.under A (.compLoop (.ListComp elt gens scope pos) depth (.ref it) (.ref r) env) = A := Around.under_of_weight rfl
  rw [hA]
  unfold compTurn
  dsimp only
  rw [hg1]
  dsimp only
  have hb0 : (g1.is_async != 0) = false := by rw [has]; rfl
  rw [hb0]
  simp only [Bool.false_eq_true, if_false]
  obtain ⟨o, eo, hd⟩ := hi.obj
  refine wpAny_bind (wpAny_standAt (wpAny_bind ?_))
  cases items with
  | nil =>
    unfold loopL at he
    split at he
    · rename_i hc
      cases he
      refine next_end (s := { s with heap := h, toks := tk.n }) room.hh hi hc G.wr fun h' hx => ?_
      refine wpAny_pure ?_
      obtain ⟨hG, hE⟩ := loop_end G eo hd hitW hitL hitC hitT hits ex hx
      exact k h' tk σ hG hE hr
    · cases he
  | cons x xs =>
    obtain ⟨hc, H1, h1, h2⟩ := loopL_cons he
    unfold turnF at h1
    obtain ⟨ρ2, hb, hb2⟩ := Option.bind_eq_some_iff.mp h1
    obtain ⟨p, hp, hp2⟩ := Option.bind_eq_some_iff.mp hb2
    refine lift (Tok1.pos tk) (next_item (s := { s with heap := h, toks := tk.n }) hi hc G.wr fun wv h' tk' hv hi' hsb htk => ?_)
    obtain ⟨o', eo', hd'⟩ := hi'.obj
    have G' : Good hT σ₀ κ ω ρ W env b σ H h' := Good.iter (s := { s with heap := h, toks := tk.n }) G hsb eo hd ⟨o', eo'⟩ hitW hitL hitC hitT
    have ex' : Ext W b σs hs σ h' := ⟨ex.pre, fun a q e => by
        obtain ⟨o2, e2⟩ := ex.there a q e
        exact there_same hsb eo' a o2 e2, fun a q e hw hdr => (hsb.2 a fun q' => by subst q'; rw [hits] at e; cases e).trans (ex.keep a q e hw hdr)⟩
    dsimp only
    refine wpAny_bind (owned_ok (s := { s with heap := h', toks := tk' }) hi' (wpAny_bind (lift htk (assign_ok (s := { s with heap := h', toks := tk' }) hb room.hh G' hv fun h2' tk2 G2 e2 ht2 => ?_))))
    have hi2 := wpAny_keepIt hi' G'.wr e2 G'.env.wobj hitW
    refine wpAny_bind (ifs_ok (s := { s with heap := h2', toks := tk2 }) RT room _ (fun _ => rfl) (fun _ => rfl) hp G2 fun h3 tk3 σ3 wr3 e3 => ?_)
    have G3 := G2.step wr3 e3
    have hi3 := wpAny_keepIt hi2 G2.wr e3.nil G2.env.wobj hitW
    have hr3 : σ3[acc]? = some r := getElem?_prefix e3.prefix hr
    -- behind the turn
    have again : ∀ {h4 : Heap} {tk4 : Tok1 z} {σ4 : List Addr} {E' : Value → Shared → Prop}, Good hT σ₀ κ ω ρ2 W env b σ4 H1 h4 → Ext W b σ3 h3 σ4 h4 → wpAny (model prog w) A (again (.compLoop (.ListComp elt gens scope pos) depth (.ref it) (.ref r) env)) (fun fin s' => match fin with
        | .done f => RR (.ok f) s'
        | .again c' => (c' = .compLoop (.ListComp elt gens scope pos) depth (.ref it) (.ref r) env ∧ ∃ m, m < (x :: xs).length ∧ ∃ items H σ h, ∃ tk : Tok1 z, m = items.length ∧ s' = { s with heap := h, toks := tk.n } ∧ loopL c all (turnF g rec recT ω elt acc κ g1 rest ρ) items H = some H' ∧
          Good hT σ₀ κ ω ρ W env b σ H h ∧ It σ h it c all items ∧ Ext W b σs hs σ h ∧ σ[acc]? = some r) ∨ (c'.quiet = true ∧ codeAny (model prog w) A c' RR s')) E' { s with heap := h4, toks := tk4.n } := by
      intro h4 tk4 σ4 E' G4 e4
      have hi4 := wpAny_keepIt hi3 G3.wr e4 G3.env.wobj hitW
      exact wpAny_pure (.inl ⟨rfl, xs.length, by simp, xs, H1, σ4, h4, tk4, rfl, rfl, h2, G4.weaken (fresh_sub hfr hb), hi4, ((ex'.trans e2).trans e3.nil).trans e4, getElem?_prefix e4.prefix hr3⟩)
    cases hpt : p.1 with
    | false =>
      rw [hpt] at hp2
      simp only [Bool.false_eq_true, if_false] at hp2 ⊢
      cases hp2
      exact again G3 (Ext.refl ..)
    | true =>
      rw [hpt] at hp2
      simp only [if_true] at hp2 ⊢
      rw [hg2]
      have key := hin (tk3 := tk3) (E' := notedBy (model prog w) A env fun e s' => RR (.error e) s') hp2 G3 hr3 fun h4 tk4 σ4 G4 e4 => again G4 e4
      revert key
      unfold inner
      generalize rest.head? = q
      intro key
      cases q <;> exact key

theorem comp_loop (B : Base prog w hT σ₀ n g) (R : RecOK z prog w hT σ₀ b n rec) (RT : RecTOK z prog w hT σ₀ b n recT) (room : Room A n) (hacc : b ≤ acc) :
    ∀ (rest : List Comprehension) {depth : Nat} {g1 : Comprehension} {ρ : Rho} {it : Addr} {c : Option Nat} {all items : List V} {H H' : Hp} {σ σs : List Addr} {h hs : Heap} {s : Shared} {tk : Tok1 z} {RR : Result → Shared → Prop},
      gens.drop depth = g1 :: rest → g1.is_async = 0 → freshT g1.target ρ = true → it ∉ W → it ≠ env.locals → (∀ x c, (κ x = some .cell ∨ κ x = some .free) → env.cells.lookup x = some c → it ≠ c) → hT.get? it = none → hs.get? it = none →
      loopL c all (turnF g rec recT ω elt acc κ g1 rest ρ) items H = some H' → Good hT σ₀ κ ω ρ W env b σ H h → It σ h it c all items → Ext W b σs hs σ h → σ[acc]? = some r →
      (∀ h' (tk : Tok1 z) σ', Good hT σ₀ κ ω ρ W env b σ' H' h' → Ext W b σs hs σ' h' → σ'[acc]? = some r → RR (.ok .next) { s with heap := h', toks := tk.n }) →
      codeAny (model prog w) A (.compLoop (.ListComp elt gens scope pos) depth (.ref it) (.ref r) env) RR { s with heap := h, toks := tk.n } := by
  intro rest
  induction rest with
  | nil =>
    intro depth g1 ρ it c all items H H' σ σs h hs s tk RR hdrop has hfr hitW hitL hitC hitT hits he G hi ex hr k
    refine comp_level B R RT room [] ?_ hdrop has hfr hitW hitL hitC hitT hits he G hi ex hr k
    intro ρ2 H2 H1 σ3 h3 tk3 Q E' kt hcg G3 hr3 k3
    unfold cgo at hcg
    obtain ⟨p, h1, he1⟩ := Option.bind_eq_some_iff.mp hcg
    unfold inner
    simp only [List.head?_nil]
    refine wpAny_bind (wpAny_bind (R.ok elt κ ρ2 H2 p.1 p.2 h1 A ω W env σ3 _ _ _ room G3 fun w4 h4 tk4 σ4 wr4 v4 e4 => ?_))
    have G4 := G3.step wr4 e4
    refine wpAny_bind (append_ok (s := { s with heap := h4, toks := tk4.n }) he1 hacc (getElem?_prefix e4.prefix hr3) v4 wr4 G4.above fun h5 wr5 e5 => wpAny_pure ?_)
    exact k3 h5 tk4 σ4 (G4.step wr5 e5) (e4.trans e5).nil
  | cons g2 rest2 ih =>
    intro depth g1 ρ it c all items H H' σ σs h hs s tk RR hdrop has hfr hitW hitL hitC hitT hits he G hi ex hr k
    refine comp_level B R RT room (g2 :: rest2) ?_ hdrop has hfr hitW hitL hitC hitT hits he G hi ex hr k
    intro ρ2 H2 H1 σ3 h3 tk3 Q E' kt hcg G3 hr3 k3
    unfold cgo at hcg
    split at hcg
    · rename_i hc2
      obtain ⟨q, h1, he1⟩ := Option.bind_eq_some_iff.mp hcg
      obtain ⟨⟨items2, c2⟩, H4⟩ := q
      obtain ⟨hg1, hg2, hg3⟩ := drop_next hdrop
      have hns : notSet g2.iter = true := by
        unfold evIter at h1
        split at h1
        · rename_i q; exact q
        · cases h1
      have hb0 : (g2.is_async != 0) = false := by rw [hc2.1]; rfl
      unfold inner
      simp only [List.head?_cons]
      rw [hb0]
      simp only [Bool.false_eq_true, if_false]
      refine wpAny_bind (wpAny_mono (evIter_ok (s := { s with heap := h3, toks := tk3.n }) B R room h1 G3 fun it2 h4 tk4 σ4 wr4 hi4 e4 hf4 => ?_) (fun x s₁ hx => wpAny_bind (wpAny_standAt (wpAny_bind (wpAny_of_eq (notSet_folded hns x) (wpAny_bind (wpAny_holding hx)))))) fun _ _ q => q)
      have G4 := G3.step wr4 e4
      have hnew : ∀ a' o, h3.get? a' = some o → it2 ≠ a' := fun a' o e q => by
        have hf4' : h3.get? it2 = none := hf4
        rw [← q, hf4'] at e; cases e
      refine wpAny_bind (wpAny_runOwn (compStart_ok ⟨_, _, _, _, rfl⟩ ?_ hi4 ?_))
      · show ((gens)[depth + 1]?).elim false (·.is_async != 0) = false
        rw [hg2]; exact hb0
      · refine ih hg3 hc2.1 hc2.2 ?_ ?_ ?_ ?_ (hs := h3) (σs := σ3) hf4 he1 G4 hi4 e4.nil (getElem?_prefix e4.prefix hr3) fun h5 tk5 σ5 G5 e5 _ => ?_
        · intro hw
          obtain ⟨o, e, _⟩ := G3.env.wobj it2 hw
          have hf4' : h3.get? it2 = none := hf4
          rw [hf4'] at e; cases e
        · obtain ⟨m, ⟨o, _, _, e, _⟩, _⟩ := G3.env.ns
          exact hnew _ o e
        · intro x c' hk hx
          obtain ⟨c3, v₀, e1, ⟨o, e2, _⟩, _⟩ := G3.env.cell x hk
          rw [hx] at e1; cases e1
          exact hnew _ o e2
        · exact none_top G3.wr.top hf4
        · exact k3 h5 tk5 σ5 G5 e5
    · cases hcg
end
end Mine
end

section
set_option autoImplicit false
set_option maxRecDepth 100000
namespace Mine
open PySem PyProof.Rows
section
variable {z : Nat} {prog : Program} {w : World} {hT : Heap} {σ₀ : List Addr} {b n : Nat} {g : Glob} {A : Around} {E : Value → Shared → Prop} {s : Shared} {σ : List Addr} {H : Hp} {κ : Kap} {ω : Str → Bool} {ρ : Rho} {W : List Addr} {env : Env}

theorem freeOk_kind {scope : Scope} (h : freeOk scope κ = true) : scope.kind = .function := by
  unfold freeOk at h
  simp only [Bool.and_eq_true, beq_iff_eq] at h
  exact h.1
theorem freeOk_mem {scope : Scope} (h : freeOk scope κ = true) {x : Str} {k : NameKind} (hm : (x, k) ∈ scope.names) : scope.names.lookup x = some k ∧ (k = .free → κ x = some .cell ∨ κ x = some .free) := by
  unfold freeOk at h
  simp only [Bool.and_eq_true] at h
  have := List.all_eq_true.mp h.2 _ hm
  simp only [Bool.and_eq_true, beq_iff_eq, Bool.or_eq_true, bne_iff_ne, ne_eq] at this
  exact ⟨this.1, fun e => by rcases this.2 with q | q; exact (q e).elim; exact q⟩

theorem compScope_kind {scope : Scope} (hfn : env.scope.kind = .function) (hk : ∀ x, env.kindOf x = κ x) (x : Str) : (compScope scope env).names.lookup x = compKap scope κ x := by
  have e : (compScope scope env).names = scope.names.map fun p => (p.1, if p.2 == .free && env.scope.kind == .function && env.kindOf p.1 == some .cell then NameKind.cell else p.2) := by
    unfold compScope
    dsimp only
    congr 1
    funext p
    obtain ⟨y, k⟩ := p
    dsimp only
    split <;> rfl
  rw [e, lookup_map_kind (fun y k => if k == .free && env.scope.kind == .function && env.kindOf y == some .cell then NameKind.cell else k), hfn]
  unfold compKap
  cases hl : scope.names.lookup x with
  | none => rfl
  | some k =>
    cases k <;> simp [hk]
    split <;> rfl

/-- the frame of a comprehension, new-made -/
theorem comp_frame {scope : Scope} {h : Heap} (G : Good hT σ₀ κ ω ρ W env b σ H h) (hf : freeOk scope κ = true) :
    Good hT σ₀ (compKap scope κ) (ownName scope) (fun y => if ownName scope y then none else ρ y) (h.objs.size :: (cellsFrom (h.objs.size + 1) scope.names []).map (·.2))
      { scope := compScope scope env, locals := h.objs.size, globals := env.globals, cells := cellsFrom (h.objs.size + 1) scope.names (closOf env.cells scope.names []), qual := env.qual, func := none, code := env.code, frame := env.frame, builtins := env.builtins }
      b σ H (pushCells (h.push { cls := .type "dict", data := .dict #[] }) scope.names) := by
  have hfn := freeOk_kind hf
  have hk : ∀ a o, h.get? a = some o → (pushCells (h.push { cls := .type "dict", data := .dict #[] }) scope.names).get? a = some o := fun a o e => pushCells_keeps _ _ _ _ (Heap.get?_push_of_some _ e)
  have tu : Tups h (pushCells (h.push { cls := .type "dict", data := .dict #[] }) scope.names) := Tups.keeps hk
  have ok := cellsFrom_ok scope.names (h.push { cls := .type "dict", data := .dict #[] }) (h.objs.size + 1) [] ⟨fun _ _ hm => (nomatch hm), List.Pairwise.nil⟩ (by rw [Heap.size_push]; exact Nat.le_refl _)
  rw [Heap.size_push] at ok
  rw [cells_append scope.names (h.objs.size + 1) (closOf env.cells scope.names [])]
  generalize hown : cellsFrom (h.objs.size + 1) scope.names [] = own at ok
  have hNs : (pushCells (h.push { cls := .type "dict", data := .dict #[] }) scope.names).Ns h.objs.size fun _ => none := (Heap.Ns.new h (.type "dict")).keeps (pushCells_keeps _ _)
  have hclo : ∀ x c, (x, c) ∈ closOf env.cells scope.names [] → scope.names.lookup x = some .free ∧ env.cells.lookup x = some c ∧ ∃ v₀, h.IsCell c v₀ ∧ ∀ v, ρ x = some v → ∃ wv, v₀ = some wv ∧ VR σ h v wv := fun x c hm => by
    rcases clos_mem hm with q | ⟨q1, q2⟩
    · cases q
    · obtain ⟨e1, e2⟩ := freeOk_mem hf q1
      obtain ⟨c', v₀, f1, f2, f3⟩ := G.env.cell x (e2 rfl)
      rw [f1] at q2
      cases q2
      exact ⟨e1, f1, v₀, f2, f3⟩
  have hownk : ∀ x c, (x, c) ∈ own → scope.names.lookup x = some .cell := fun x c hm => by
    rw [← hown] at hm
    rcases cells_kind hm with q | q
    · cases q
    · exact (freeOk_mem hf q).1
  have hcells : ∀ x c, (own ++ closOf env.cells scope.names []).lookup x = some c → (x, c) ∈ own ∨ (own.lookup x = none ∧ (x, c) ∈ closOf env.cells scope.names []) := fun x c e => by
    rw [List.lookup_append] at e
    cases q : own.lookup x with
    | some c' => rw [q] at e; cases e; exact .inl (mem_of_lookup q)
    | none => rw [q] at e; exact .inr ⟨rfl, mem_of_lookup e⟩
  refine ⟨⟨G.wr.len, fun a xs r e1 e2 => let ⟨arr, p, q, l⟩ := G.wr.obj a xs r e1 e2; ⟨arr, p.at fun o e => hk _ _ e, q.mono (prefix_same _) tu, l⟩, G.wr.nodup, fun a o e => hk _ _ (G.wr.top a o e)⟩,
    ⟨hfn, fun x => compScope_kind G.env.fn G.env.kind x, G.env.glob, G.env.blt, ⟨_, hNs, fun x v hx hv => ?_⟩, fun x hx => ?_, fun x y c h1 h2 => ?_, fun x hx => ?_, List.mem_cons_self, fun a ha => ?_⟩, G.base, G.above, fun a ha => ?_, G.tab⟩
  · -- a local of its own is not bound yet
    have hl : scope.names.lookup x = some .local := by
      unfold compKap at hx
      split at hx
      · split at hx <;> cases hx
      · exact hx
    have : ownName scope x = true := by unfold ownName; rw [hl]; rfl
    rw [if_pos this] at hv; cases hv
  · cases hl : scope.names.lookup x with
    | none => unfold compKap at hx; rw [hl] at hx; rcases hx with q | q <;> cases q
    | some k =>
      by_cases hc : k = .cell
      · subst hc
        have hs := cells_has scope.names (h.objs.size + 1) [] (x := x) (.inr (mem_of_lookup hl))
        rw [hown] at hs
        obtain ⟨c, e⟩ := Option.isSome_iff_exists.mp hs
        refine ⟨c, none, by show (own ++ _).lookup x = _; rw [List.lookup_append, e]; rfl, (ok.empty x c (mem_of_lookup e)).1, fun v hv => ?_⟩
        have : ownName scope x = true := by unfold ownName; rw [hl]; rfl
        rw [if_pos this] at hv; cases hv
      · by_cases hfr : k = .free
        · subst hfr
          have hs := clos_has (cells := env.cells) scope.names [] (x := x) (.inr (mem_of_lookup hl))
          obtain ⟨c, e⟩ := Option.isSome_iff_exists.mp hs
          have hno : own.lookup x = none := by
            cases q : own.lookup x with
            | none => rfl
            | some c' => have := hownk x c' (mem_of_lookup q); rw [hl] at this; cases this
          obtain ⟨_, f1, v₀, f2, f3⟩ := hclo x c (mem_of_lookup e)
          refine ⟨c, v₀, by show (own ++ _).lookup x = _; rw [List.lookup_append, hno]; exact e, f2.keeps hk, fun v hv => ?_⟩
          have : ownName scope x = false := by unfold ownName; rw [hl]; rfl
          rw [this] at hv
          obtain ⟨wv, g1, g2⟩ := f3 v hv
          exact ⟨wv, g1, g2.mono (prefix_same _) tu⟩
        · unfold compKap at hx
          rw [hl] at hx
          cases k <;> simp at hx hc hfr
  · rcases hcells x c h1 with q1 | ⟨_, q1⟩ <;> rcases hcells y c h2 with q2 | ⟨_, q2⟩
    · exact name_of_addr ok.apart q1 q2
    · obtain ⟨_, _, v₀, f2, _⟩ := hclo y c q2
      have := f2.lt
      have := (ok.empty x c q1).2
      exact absurd f2.lt (Nat.not_lt.mpr (Nat.le_of_succ_le this))
    · obtain ⟨_, _, v₀, f2, _⟩ := hclo x c q1
      have := (ok.empty y c q2).2
      exact absurd f2.lt (Nat.not_lt.mpr (Nat.le_of_succ_le this))
    · obtain ⟨_, f1, _⟩ := hclo x c q1
      obtain ⟨_, f2, _⟩ := hclo y c q2
      exact G.env.inj x y c f1 f2
  · unfold ownName at hx
    simp only [Bool.or_eq_true, beq_iff_eq] at hx
    rcases hx with q | q
    · exact .inl (by unfold compKap; rw [q])
    · refine .inr ⟨by unfold compKap; rw [q], fun c e => List.mem_cons_of_mem _ ?_⟩
      rcases hcells x c e with q1 | ⟨q0, q1⟩
      · exact List.mem_map.mpr ⟨_, q1, rfl⟩
      · obtain ⟨f0, _⟩ := hclo x c q1
        rw [q] at f0; cases f0
  · rcases List.mem_cons.mp ha with q | q
    · obtain ⟨o, es, ep, e1, e2, _⟩ := hNs
      exact ⟨o, by rw [q]; exact e1, by rw [e2]; intro _ _ e; cases e⟩
    · obtain ⟨p, hp, rfl⟩ := List.mem_map.mp q
      obtain ⟨o, e1, e2⟩ := (ok.empty p.1 p.2 hp).1
      exact ⟨o, e1, by rw [e2]; intro _ _ e; cases e⟩
  · refine none_top G.wr.top (get_ge ?_)
    rcases List.mem_cons.mp ha with q | q
    · rw [q]; exact Nat.le_refl _
    · obtain ⟨p, hp, rfl⟩ := List.mem_map.mp q
      exact Nat.le_of_succ_le (ok.empty p.1 p.2 hp).2

theorem it_no_cell {it : Addr} {c : Option Nat} {all rest : List V} {h : Heap} {o : Obj} {v₀ : Option Value} (x : It σ h it c all rest) (e : h.get? it = some o) (hd : o.data = .cell v₀) : False := by
  cases x with
  | list _ q => obtain ⟨o', a, _, d⟩ := q; rw [e] at a; cases a; rw [hd] at d; cases d
  | tuple _ _ q => obtain ⟨o', a, _, d⟩ := q; rw [e] at a; cases a; rw [hd] at d; cases d
  | str _ q => obtain ⟨o', a, _, d⟩ := q; rw [e] at a; cases a; rw [hd] at d; cases d
  | range q =>
    have q' : h.get? it = some _ := q
    rw [e] at q'; cases q'; cases hd

theorem comp_gen {rec : Rec} {recT : RecT} (B : Base prog w hT σ₀ n g) (R : RecOK z prog w hT σ₀ b n rec) (RT : RecTOK z prog w hT σ₀ b n recT) (room : Room A n) {elt : Expr} {gens : List Comprehension} {scope : Scope} {pos p0 : Pos} {v : V} {H' : Hp} {Q : Value → Shared → Prop} {use : Option (Value → Sem Unit)}
    (he : evComp g rec recT elt gens scope κ ρ H = some (v, H')) (G : Good hT σ₀ κ ω ρ W env b σ H s.heap)
    (hend : ∀ r h' (tk : Tok1 z) σ' L m, WR hT σ' H' h' → VR σ' h' v (.ref r) → Ext [] b σ s.heap σ' h' → s.heap.get? L = none → h'.Ns L m →
      match use with
      | none => ∀ h3 m3, h3.Ns L m3 → Heap.SameBut L h' h3 → Q (.ref r) { s with heap := h3, toks := tk.n }
      | some u => wpAny (model prog w) A (u (.ref r)) (fun _ s2 => ∃ m2, s2.heap.Ns L m2 ∧ ∀ h3 m3, h3.Ns L m3 → Heap.SameBut L s2.heap h3 → Q .none { s2 with heap := h3 }) E { s with heap := h', toks := tk.n }) (ht : z ≤ s.toks := by first | assumption | exact Tok1.pos _ | exact Nat.zero_le _) :
    wpAny (model prog w) A (comprehension (.ListComp elt gens scope pos) scope env p0 (newList []) (firstAsync gens) (firstIter gens env) use) Q E s := by
  unfold evComp at he
  split at he
  · cases he
  · rename_i g1 rest
    split at he
    · rename_i hc
      obtain ⟨hc1, hc2, hc3⟩ := hc
      obtain ⟨q, h1, he1⟩ := Option.bind_eq_some_iff.mp he
      obtain ⟨Hl, h2, he2⟩ := Option.map_eq_some_iff.mp he1
      obtain ⟨⟨items, c⟩, H1⟩ := q
      cases he2
      obtain ⟨t, iter, ifs, a⟩ := g1
      simp only at hc1 hc3 h1 h2
      subst hc1
      have hns : notSet iter = true := by
        unfold evIter at h1
        split at h1
        · rename_i q; exact q
        · cases h1
      have hfn := freeOk_kind hc2
      show wpAny _ _ (comprehension (.ListComp elt (⟨t, iter, ifs, 0⟩ :: rest) scope pos) scope env p0 (newList []) false (eval iter env) use) _ _ _
      refine comp_rule rfl (notSet_folded hns) hfn (fun x hx hl => ?_) ?_
      · rw [compScope_kind G.env.fn G.env.kind]
        have := (freeOk_mem hc2 (x := x.1) (k := x.2) hx).1
        unfold compKap
        rw [this, hl]
      refine evIter_ok B R room h1 G fun it h' tk σ1 wr1 hi e1 hfr => ?_
      have G1 := G.step wr1 e1
      refine wpAny_newList (items := []) ?_
      have wr2 := wr1.pushL (xs := []) (arr := #[]) 0 .nil (by simp)
      have e2 : Ext [] b σ1 h' (σ1 ++ [h'.objs.size]) (h'.push { cls := .type "list", data := .seq #[] 0 }) := Ext.pushL ..
      have G2 := G1.step wr2 e2
      have e12 := e1.trans e2
      generalize hh2 : h'.push { cls := .type "list", data := .seq #[] 0 } = h2' at wr2 e2 G2 e12
      show wpAny _ _ (closureFor scope env) _ _ { s with heap := h2', toks := tk.n }
      refine closure_ok (s := { s with heap := h2', toks := tk.n }) (fun p hp hfree => ?_) ?_
      · obtain ⟨_, f⟩ := freeOk_mem hc2 (x := p.1) (k := p.2) hp
        obtain ⟨c', _, f1, _⟩ := G.env.cell p.1 (f hfree)
        rw [f1]; rfl
      refine newEnv_ok (s := { s with heap := h2', toks := tk.n }) ?_
      have GI := comp_frame G2 hc2
      dsimp only at GI ⊢
      generalize hown : cellsFrom (h2'.objs.size + 1) scope.names [] = own at GI
      generalize hcenv : cellsFrom (h2'.objs.size + 1) scope.names (closOf env.cells scope.names []) = cs at GI ⊢
      generalize hh3 : pushCells (h2'.push { cls := .type "dict", data := .dict #[] }) scope.names = h3 at GI ⊢
      have hk23 : ∀ a o, h2'.get? a = some o → h3.get? a = some o := fun a o e => by rw [← hh3]; exact pushCells_keeps _ _ _ _ (Heap.get?_push_of_some _ e)
      have e3 : Ext [] b (σ1 ++ [h'.objs.size]) h2' (σ1 ++ [h'.objs.size]) h3 := ⟨⟨[], by simp, by simp⟩, fun a o e => ⟨o, hk23 a o e⟩, fun a o e _ _ => hk23 a o e⟩
      have e13 := e12.trans e3
      have hWnew : ∀ a ∈ h2'.objs.size :: own.map (·.2), h2'.get? a = none := fun a ha => get_ge (by
        rcases List.mem_cons.mp ha with q | q
        · rw [q]; exact Nat.le_refl _
        · obtain ⟨p, hp, rfl⟩ := List.mem_map.mp q
          have ok := cellsFrom_ok scope.names (h2'.push { cls := .type "dict", data := .dict #[] }) (h2'.objs.size + 1) [] ⟨fun _ _ hm => (nomatch hm), List.Pairwise.nil⟩ (by rw [Heap.size_push]; exact Nat.le_refl _)
          rw [Heap.size_push, hown] at ok
          exact Nat.le_of_succ_le (ok.empty p.1 p.2 hp).2)
      have hi3 : It (σ1 ++ [h'.objs.size]) h3 it c items items := hi.keep (List.prefix_append _ _) ((e2.tups wr1).trans (e3.tups wr2)) fun o e => hk23 _ _ (by rw [← hh2]; exact Heap.get?_push_of_some _ e)
      obtain ⟨oi, eoi, hdi⟩ := hi.obj
      have eoi2 : h2'.get? it = some oi := by rw [← hh2]; exact Heap.get?_push_of_some _ eoi
      have hitW : it ∉ h2'.objs.size :: own.map (·.2) := fun q => by have := hWnew it q; rw [eoi2] at this; cases this
      have hacc : b ≤ H1.length := G1.base
      refine compStart_ok (s := { s with heap := h3, toks := tk.n }) ⟨_, _, _, _, rfl⟩ rfl hi3 ?_
      refine comp_loop (env := { scope := compScope scope env, locals := h2'.objs.size, globals := env.globals, cells := cs, qual := env.qual, func := none, code := env.code, frame := env.frame, builtins := env.builtins })
        (W := h2'.objs.size :: own.map (·.2)) (κ := compKap scope κ) (ω := ownName scope) (acc := H1.length) (r := h'.objs.size) B R RT room hacc rest (depth := 0) (g1 := ⟨t, iter, ifs, 0⟩) (hs := s.heap) (σs := σ) rfl rfl hc3 hitW ?_ ?_ (none_top G.wr.top hfr) hfr h2 GI hi3 e13.nil ?_ ?_
      · exact fun q => hitW (by rw [q]; exact List.mem_cons_self)
      · intro x c' hx hl q
        obtain ⟨c2, v₀, f1, f2, _⟩ := GI.env.cell x hx
        rw [hl] at f1
        cases f1
        obtain ⟨oc, g1, g2⟩ := f2
        rw [← q, hk23 _ _ eoi2] at g1
        cases g1
        -- the iterator is no cell
        exact it_no_cell hi eoi g2
      · rw [← wr1.len]; simp
      · intro h4 tk4 σ4 G4 e4 hr4
        obtain ⟨m, hm, _⟩ := G4.env.ns
        refine ⟨m, hm, ?_⟩
        have hsn : ∀ a ∈ h2'.objs.size :: own.map (·.2), s.heap.get? a = none := fun a ha => fresh_of e12 (hWnew a ha)
        have e4' : Ext [] b σ s.heap σ4 h4 := e4.weaken fun a o e q => by rw [hsn a q] at e; cases e
        have hv4 : VR σ4 h4 (.ref H1.length) (.ref h'.objs.size) := .ref hr4
        have := hend h'.objs.size h4 tk4 σ4 h2'.objs.size m G4.wr hv4 e4' (hsn _ List.mem_cons_self) hm
        cases use with
        | none => exact this
        | some u => exact this
    · cases he

theorem comp_ok {rec : Rec} {recT : RecT} (B : Base prog w hT σ₀ n g) (R : RecOK z prog w hT σ₀ b n rec) (RT : RecTOK z prog w hT σ₀ b n recT) (room : Room A n) {elt : Expr} {gens : List Comprehension} {scope : Scope} {pos : Pos} {v : V} {H' : Hp} {Q : Value → Shared → Prop}
    (he : evComp g rec recT elt gens scope κ ρ H = some (v, H')) (G : Good hT σ₀ κ ω ρ W env b σ H s.heap) (k : KontT z hT b σ v H' Q s) (ht : z ≤ s.toks := by first | assumption | exact Tok1.pos _ | exact Nat.zero_le _) : wpAny (model prog w) A (eval (.ListComp elt gens scope pos) env) Q E s := by
  rw [eval_ListComp]
  refine comp_gen B R RT room he G fun r h' tk σ' L m wr' hv ex hL hm => ?_
  intro h3 m3 hm3 hs
  obtain ⟨o, es, ep, e1, e2, _⟩ := hm
  have hds : ∀ arr n, o.data ≠ .seq arr n := by rw [e2]; intro _ _ e; cases e
  obtain ⟨o3, es3, ep3, f1, _⟩ := hm3
  have tu := tups_same hs e1 hds
  refine k _ h3 tk σ' (wr'.other hs e1 hds (none_top G.wr.top hL)) (hv.mono (prefix_same _) tu) ⟨ex.pre, fun a oa e => ?_, fun a oa e hw hdr => ?_⟩
  · obtain ⟨o2, g2⟩ := ex.there a oa e
    exact there_same hs f1 a o2 g2
  · exact (hs.2 a fun q => by subst q; rw [hL] at e; cases e).trans (ex.keep a oa e hw hdr)

theorem comp_use {rec : Rec} {recT : RecT} (B : Base prog w hT σ₀ n g) (R : RecOK z prog w hT σ₀ b n rec) (RT : RecTOK z prog w hT σ₀ b n recT) (room : Room A n) {elt : Expr} {gens : List Comprehension} {scope : Scope} {pos : Pos} {v : V} {H' : Hp} {x : Str} {xp : Pos} {Q : Unit → Shared → Prop}
    (he : evComp g rec recT elt gens scope κ ρ H = some (v, H')) (hω : ω x = true) (G : Good hT σ₀ κ ω ρ W env b σ H s.heap)
    (k : ∀ h' (tk : Tok1 z) σ', Good hT σ₀ κ ω (upd ρ x v) W env b σ' H' h' → Ext W b σ s.heap σ' h' → Q () { s with heap := h', toks := tk.n }) (ht : z ≤ s.toks := by first | assumption | exact Tok1.pos _ | exact Nat.zero_le _) :
    wpAny (model prog w) A (evalThenUse (.ListComp elt gens scope pos) env fun v => assignAll v ((assignEach [.Name x xp] env).map (·.2))) Q E s := by
  show wpAny _ _ (comprehension (.ListComp elt gens scope pos) scope env (firstIterPos gens pos) (newList []) (firstAsync gens) (firstIter gens env) (some fun v => assign (.Name x xp) env v) >>= fun _ => pure ()) _ _ _
  refine wpAny_bind (comp_gen B R RT room he G fun r h' tk σ' L m wr' hv ex hL hm => ?_)
  dsimp only
  have G' := G.step wr' ex
  refine wpAny_assign_Name (lift (Tok1.pos tk) (store_ok (s := { s with heap := h', toks := tk.n }) hω G' hv fun h4 tk4 G4 e4 ht4 => ?_))
  have hLW : L ∉ W := fun q => by
    obtain ⟨o, e, _⟩ := G.env.wobj L q
    rw [hL] at e; cases e
  obtain ⟨o, es, ep, e1, e2, e3⟩ := hm
  have hds : ∀ arr n, o.data ≠ .seq arr n := by rw [e2]; intro _ _ e; cases e
  have hL4 : h4.get? L = some o := e4.keep L o e1 hLW fun q => wr'.not_of_data e1 hds (List.mem_of_mem_drop q)
  refine ⟨m, ⟨o, es, ep, hL4, e2, e3⟩, fun h5 m5 hm5 hs5 => wpAny_pure ?_⟩
  obtain ⟨o5, es5, ep5, f1, _⟩ := hm5
  have hnew : ∀ a' o, s.heap.get? a' = some o → L ≠ a' := fun a' o e q => by rw [← q, hL] at e; cases e
  refine k h5 ⟨tk4, ht4⟩ σ' (Good.iter (s := { s with heap := h4, toks := tk4 }) G4 hs5 hL4 hds ⟨o5, f1⟩ hLW ?_ ?_ (none_top G.wr.top hL)) ⟨?_, fun a oa e => ?_, fun a oa e hw hdr => ?_⟩
  · obtain ⟨m', ⟨oL, _, _, q, _⟩, _⟩ := G.env.ns
    exact hnew _ oL q
  · intro y c hk hy
    obtain ⟨c2, v₀, f1, ⟨oc, f2, _⟩, _⟩ := G.env.cell y hk
    rw [hy] at f1; cases f1
    exact hnew _ oc f2
  · exact (ex.nil.trans e4).pre
  · obtain ⟨o2, g2⟩ := (ex.nil.trans e4).there a oa e
    exact there_same hs5 f1 a o2 g2
  · exact (hs5.2 a fun q => by subst q; rw [hL] at e; cases e).trans ((ex.nil.trans e4).keep a oa e hw hdr)
end
end Mine
end

section
set_option autoImplicit false
set_option maxRecDepth 100000
namespace Mine
open PySem PyProof.Rows
section
variable {z : Nat} {prog : Program} {w : World} {hT : Heap} {σ₀ : List Addr} {b n : Nat} {g : Glob}

theorem const_ok {A : Around} {E : Value → Shared → Prop} {s : Shared} {σ : List Addr} {H : Hp} {env : Env} {c : Const} {v : V} {Q : Value → Shared → Prop} (he : cval c = some v) (wr : WR hT σ H s.heap) (k : Kont hT b σ v H Q s) : wpAny (model prog w) A (constValue env c) Q E s := by
  cases c <;> simp [cval] at he
  · subst he; exact wpAny_pure (k.same' wr .none)
  · subst he; exact wpAny_pure (k.same' wr (.bool _))
  · subst he; exact wpAny_mkInt (k.same wr (.int _ _) _)
  · obtain ⟨h1, rfl⟩ := he; exact wpAny_mkText (k.same wr (.str _ _ h1) _)

theorem callB_bval {f : Str} {as : List V} {H : Hp} {p : V × Hp} (he : callB f as H = some p) : ∃ fv, bval f = some fv := by
  unfold callB at he
  unfold bval
  split at he
  · rename_i h; exact ⟨_, if_pos h⟩
  rename_i n1; rw [if_neg n1]
  split at he
  · rename_i h; exact ⟨_, if_pos h⟩
  rename_i n1; rw [if_neg n1]
  split at he
  · rename_i h; exact ⟨_, if_pos h⟩
  rename_i n1; rw [if_neg n1]
  split at he
  · rename_i h; exact ⟨_, if_pos h⟩
  rename_i n1; rw [if_neg n1]
  split at he
  · rename_i h; exact ⟨_, if_pos h⟩
  rename_i n1; rw [if_neg n1]
  split at he
  · rename_i h; exact ⟨_, if_pos h⟩
  rename_i n1; rw [if_neg n1]
  split at he
  · rename_i h; exact ⟨_, if_pos h⟩
  · cases he

theorem sliceOf_eq {i : Expr} {l u st : Option Expr} (h : sliceOf i = some (l, u, st)) : ∃ p, i = .Slice l u st p := by
  unfold sliceOf at h
  split at h
  · cases h; exact ⟨_, rfl⟩
  · cases h
theorem zOf_le (f : Str) : zOf f ≤ 1 := by
  unfold zOf; split <;> decide
theorem starts_fresh {e : Expr} {env : Env} {pos : Pos} {fv : Value} (h : startsConst e = true) : ∃ k, evalArgs fv true (backTo pos (starEach [e] env)) [] = Sem.fresh k := by
  unfold startsConst at h
  split at h
  · exact ⟨_, rfl⟩
  · cases h

theorem evF_ok {rec : Rec} {recT : RecT} (B : Base prog w hT σ₀ n g) (R : RecOK g.z prog w hT σ₀ b n rec) (RT : RecTOK g.z prog w hT σ₀ b n recT) : RecOK g.z prog w hT σ₀ b n (evF g b rec recT) := by
  refine ⟨?_⟩
  intro e κ ρ H v H' he A ω W env σ s Q E room G k ht
  unfold evF at he
  split at he
  · -- a constant
    obtain ⟨u, h1, h2⟩ := Option.map_eq_some_iff.mp he
    cases h2
    exact lift ht (const_ok h1 G.wr k.toK)
  · obtain ⟨u, h1, h2⟩ := Option.map_eq_some_iff.mp he
    cases h2
    exact name_ok h1 B G k
  · exact evBool_ok R room he G k
  · obtain ⟨p, h1, he1⟩ := Option.bind_eq_some_iff.mp he
    obtain ⟨q, h2, he2⟩ := Option.bind_eq_some_iff.mp he1
    refine wpAny_BinOp (R.ok _ κ ρ H p.1 p.2 h1 A ω W env σ s _ E room G fun w1 h1' tk1 σ1 wr1 v1 e1 => ?_)
    refine R.ok _ κ ρ p.2 q.1 q.2 h2 A ω W env σ1 _ _ E room (G.step wr1 e1) fun w2 h2' tk2 σ2 wr2 v2 e2 => ?_
    exact lift (Tok1.pos tk2) (binop_ok he2 (v1.after wr1 e2) v2 wr2 ((k.after (tk := tk1) e1).after (tk := tk2) e2).toK)
  · rename_i op x pos
    obtain ⟨p, h1, he1⟩ := Option.bind_eq_some_iff.mp he
    obtain ⟨u, h2, he2⟩ := Option.map_eq_some_iff.mp he1
    cases he2
    show wpAny _ _ (eval x env >>= fun v => standAt pos >>= fun _ => holding [v] (unaryOp op v)) _ _ _
    refine wpAny_bind (R.ok _ κ ρ H p.1 p.2 h1 A ω W env σ s _ E room G fun w1 h1' tk1 σ1 wr1 v1 e1 => ?_)
    exact wpAny_bind (wpAny_standAt (wpAny_holding (lift (Tok1.pos tk1) (unop_ok h2 v1 wr1 (k.after (tk := tk1) e1).toK))))
  · rename_i l ops cs pos
    obtain ⟨p, h1, he1⟩ := Option.bind_eq_some_iff.mp he
    obtain ⟨q, h2, he2⟩ := Option.map_eq_some_iff.mp he1
    cases he2
    show wpAny _ _ (eval l env >>= fun v => compareChain pos v ops (markedEach ops cs (evalEach cs env))) _ _ _
    refine wpAny_bind (R.ok _ κ ρ H p.1 p.2 h1 A ω W env σ s _ E room G fun w1 h1' tk1 σ1 wr1 v1 e1 => ?_)
    exact cmpChain_ok R room h2 v1 (G.step wr1 e1) (k.after (tk := tk1) e1)
  · -- a call
    rename_i f args kws pos
    split at he
    · split at he
      · rename_i o m ap
        split at he
        · rename_i hc
          obtain ⟨p, h1, he1⟩ := Option.bind_eq_some_iff.mp he
          split at he1
          · rename_i hm
            split at he1
            · rename_i hz
              exact replace_ok R room hz hc.1 hc.2.1 hm h1 he1 G k
            · cases he1
          · obtain ⟨q, h2, he2⟩ := Option.bind_eq_some_iff.mp he1
            exact method_ok R room hc.1 hc.2.1 hc.2.2 h1 h2 he2 G k
        · cases he
      · rename_i f p
        split at he
        · rename_i hc
          show wpAny _ _ (eval (.Name f p) env >>= fun fv => callWith pos fv [] (backTo pos (starEach args env)) []) _ _ _
          split at he
          · rename_i hfn
            split at he
            · rename_i hval
              obtain ⟨q, h1, he1⟩ := Option.bind_eq_some_iff.mp he
              obtain ⟨mg, hg, _, _, h3, _⟩ := B.gns
              obtain ⟨fa, o, fd, e1, e2, e3, FS⟩ := h3 f hfn
              have hk' : env.kindOf f = some .globalImplicit := by rw [G.env.kind]; exact hc.1
              have hd' : (f == ("__debug__" : Str)) = false := by simpa using hc.2.1
              have hg' : s.heap.Ns env.globals mg := by rw [G.env.glob]; exact hg.keeps G.wr.top
              refine wpAny_bind (Calls.Name_function_global G.env.fn hk' (Calls.loadGlobal_global hg' e1 ?_) hd')
              have fin : ∀ ws h' (tk : Tok1 g.z) σ', zOf f ≤ tk.n → WR hT σ' q.2 h' → VRs σ' h' q.1 ws → Ext [] b σ s.heap σ' h' → wpAny (model prog w) A (call (.ref fa) ws) Q E { s with heap := h', toks := tk.n } := fun ws h' tk σ' hz wr' vs' ex => by
                have G' := G.step wr' ex
                refine lift (Tok1.pos tk) (FS q.1 q.2 v H' he1 A σ' _ _ _ ws room wr' G'.tab vs' (fun w2 h2' tk2 σ2 wr2 v2 ex2 hz2 => ?_) hz)
                exact k w2 h2' ⟨tk2.n, hz2⟩ σ2 wr2 v2 (ex.trans (ex2.base G'.base))
              have hval2 := hval.2
              unfold tokOk at hval2
              simp only [Bool.or_eq_true, decide_eq_true_eq] at hval2
              rcases hval2 with hz | hz
              · refine Calls.callWith_function (o := o) (fd := fd) (args_ok R room h1 G fun ws h' tk σ' wr' vs' ex => ?_)
                exact ⟨⟨wr'.top _ _ e2, e3⟩, fin ws h' tk σ' (Nat.le_trans hz tk.pos) wr' vs' ex⟩
              · split at hz
                · rename_i e
                  refine Calls.callWith_function (o := o) (fd := fd) ?_
                  obtain ⟨kk, hkk⟩ := starts_fresh (env := env) (pos := pos) (fv := .ref fa) hz
                  refine fresh_toks hkk (args_ok R room h1 G fun ws h' tk σ' wr' vs' ex hz1 => ?_)
                  exact ⟨⟨wr'.top _ _ e2, e3⟩, fin ws h' tk σ' (Nat.le_trans (zOf_le f) hz1) wr' vs' ex⟩
                · cases hz
            · cases he
          · split at he
            · rename_i hnf hg
              obtain ⟨q, h1, he1⟩ := Option.bind_eq_some_iff.mp he
              simp only [isGlobalB, Bool.and_eq_true, beq_iff_eq, Option.isNone_iff_eq_none, Bool.not_eq_true'] at hg
              obtain ⟨fv, hb⟩ := callB_bval he1
              refine wpAny_bind (global_ok B G hc.1 hc.2.1 (.inr ⟨hg.1.2, hg.2, fv, hb, ?_⟩))
              refine callVal_ok R room (bval_kind hb) h1 G fun ws h' tk σ' wr' vs' ex => ?_
              exact lift (Tok1.pos tk) (callB_ok he1 hb room.hh vs' wr' (k.after (tk := tk) ex).toK)
            · cases he
        · cases he
      · cases he
    · cases he
  · -- a subscript
    rename_i val i pos
    split at he
    · rename_i x hsl
      obtain ⟨l, u, st⟩ := x
      obtain ⟨sp, rfl⟩ := sliceOf_eq hsl
      obtain ⟨p, h1, he1⟩ := Option.bind_eq_some_iff.mp he
      obtain ⟨q, h2, he2⟩ := Option.bind_eq_some_iff.mp he1
      obtain ⟨r, h3, he3⟩ := Option.bind_eq_some_iff.mp he2
      obtain ⟨t, h4, he4⟩ := Option.bind_eq_some_iff.mp he3
      refine Subscript_ (R.ok _ κ ρ H p.1 p.2 h1 A ω W env σ s _ E room G fun w1 h1' tk1 σ1 wr1 v1 e1 => ?_)
      have G1 := G.step wr1 e1
      refine wpAny_Slice (evOpt_ok (s := { s with heap := h1', toks := tk1.n }) R room h2 G1 fun w2 h2' tk2 σ2 wr2 v2 e2 => ?_)
      have G2 := G1.step wr2 e2
      refine evOpt_ok (s := { s with heap := h2', toks := tk2.n }) R room h3 G2 fun w3 h3' tk3 σ3 wr3 v3 e3 => ?_
      have G3 := G2.step wr3 e3
      refine evOpt_ok (s := { s with heap := h3', toks := tk3.n }) R room h4 G3 fun w4 h4' tk4 σ4 wr4 v4 e4 => ?_
      refine lift (Tok1.pos tk4) (slice_ok (b := b) (s := { s with heap := h4', toks := tk4.n }) he4 (((v1.after wr1 e2).after wr2 e3).after wr3 e4) ((v2.after wr2 e3).after wr3 e4) (v3.after wr3 e4) v4 wr4 ?_)
      exact ((((k.after (tk := tk1) e1).after (tk := tk2) e2).after (tk := tk3) e3).after (tk := tk4) e4).toK
    · rename_i hns
      · obtain ⟨p, h1, he1⟩ := Option.bind_eq_some_iff.mp he
        obtain ⟨q, h2, he2⟩ := Option.bind_eq_some_iff.mp he1
        obtain ⟨u, h3, he3⟩ := Option.map_eq_some_iff.mp he2
        cases he3
        refine Subscript_ (R.ok _ κ ρ H p.1 p.2 h1 A ω W env σ s _ E room G fun w1 h1' tk1 σ1 wr1 v1 e1 => ?_)
        refine R.ok _ κ ρ p.2 q.1 q.2 h2 A ω W env σ1 _ _ E room (G.step wr1 e1) fun w2 h2' tk2 σ2 wr2 v2 e2 => ?_
        exact lift (Tok1.pos tk2) (idx_ok h3 (v1.after wr1 e2) v2 wr2 ((k.after (tk := tk1) e1).after (tk := tk2) e2).toK)
  · obtain ⟨q, h1, he1⟩ := Option.bind_eq_some_iff.mp he
    split at he1
    · rename_i hl
      cases he1
      refine List_ (evs_ok R room h1 G fun ws h' tk σ' wr' vs' ex => ?_)
      refine wpAny_newList ?_ (by rw [← vs'.length]; exact hl)
      exact (k.after (tk := tk) ex) _ _ tk _ (wr'.pushL 0 (by simpa using vs') hl) (.ref (by rw [← wr'.len]; simp)) (Ext.pushL ..)
    · cases he1
  · obtain ⟨q, h1, he1⟩ := Option.bind_eq_some_iff.mp he
    split at he1
    · rename_i hl
      cases he1
      refine Tuple_ (evs_ok R room h1 G fun ws h' tk σ' wr' vs' ex => ?_)
      refine wpAny_newTuple ?_ (by rw [← vs'.length]; exact hl)
      have kk : ∀ a o', h'.get? a = some o' → (h'.push { cls := .type "tuple", data := .seq ws.toArray }).get? a = some o' := fun _ _ e => Heap.get?_push_of_some _ e
      refine (k.after (tk := tk) ex) _ _ tk _ (wr'.push _) (.tup (Heap.get?_push_size _ rfl) rfl rfl ?_ hl) (Ext.push ..)
      exact VRs.mono (prefix_same _) (Tups.keeps kk) (by simpa using vs')
    · cases he1
  · exact comp_ok B R RT room he G k
  · cases he
end
end Mine
end

section
set_option autoImplicit false
set_option maxRecDepth 100000
namespace Mine
open PySem PyProof.Rows
section
variable {z : Nat} {prog : Program} {w : World} {hT : Heap} {σ₀ : List Addr} {b n : Nat} {g : Glob}

theorem tstAll_ok {A : Around} {E : Value → Shared → Prop} {κ : Kap} {ω : Str → Bool} {ρ : Rho} {W : List Addr} {env : Env} {recT : RecT} (RT : RecTOK z prog w hT σ₀ b n recT) (room : Room A n) {op : BoolOp} : ∀ {es : List Expr} {t : Bool} {H H' : Hp} {σ : List Addr} {s : Shared} {Q : Bool → Shared → Prop}, tstAll recT op κ ρ es H = some (t, H') →
    Good hT σ₀ κ ω ρ W env b σ H s.heap → KontB z hT b σ t H' Q s → (ht : z ≤ s.toks := by first | assumption | exact Tok1.pos _ | exact Nat.zero_le _) → wpAny (model prog w) A (allTrue op es env) Q E s
  | [], t, H, H', σ, s, Q, he, G, k, ht => by
    simp [tstAll] at he
    obtain ⟨rfl, rfl⟩ := he
    exact wpAny_pure (k s.heap ⟨s.toks, ht⟩ σ G.wr (Ext.refl ..))
  | e :: r, t, H, H', σ, s, Q, he, G, k, ht => by
    unfold tstAll at he
    obtain ⟨p, h1, he1⟩ := Option.bind_eq_some_iff.mp he
    show wpAny _ _ (isTrue e env (eval e env) >>= fun c => match op, c with
      | .And, false => pure false
      | .Or, true => pure true
      | _, _ => allTrue op r env) _ _ _
    refine wpAny_bind (RT.ok e κ ρ H p.1 p.2 h1 A ω W env σ s _ E room G fun h' tk σ' wr' ex => ?_)
    have ih : ∀ {t}, tstAll recT op κ ρ r p.2 = some (t, H') → KontB z hT b σ t H' Q s → wpAny (model prog w) A (allTrue op r env) Q E { s with heap := h', toks := tk.n } := fun q k' => tstAll_ok RT room q (G.step wr' ex) (k'.after (tk := tk) ex)
    obtain ⟨c, Hc⟩ := p
    cases op <;> cases c <;> dsimp only at he1 ⊢
    · cases he1; exact wpAny_pure (k h' tk σ' wr' ex)
    · exact ih he1 k
    · exact ih he1 k
    · cases he1; exact wpAny_pure (k h' tk σ' wr' ex)

theorem tstF_ok {rec : Rec} {recT : RecT} (R : RecOK z prog w hT σ₀ b n rec) (RT : RecTOK z prog w hT σ₀ b n recT) : RecTOK z prog w hT σ₀ b n (tstF rec recT) := by
  refine ⟨?_⟩
  intro e κ ρ H t H' he A ω W env σ s Q E room G k ht
  unfold tstF at he
  split at he
  · rename_i op x pos
    split at he
    · rename_i ho
      obtain ⟨p, h1, he1⟩ := Option.map_eq_some_iff.mp he
      cases he1
      cases op <;> simp [isNotOp] at ho
      refine PyProof.Rows.isTrue_not (RT.ok x κ ρ H p.1 p.2 h1 A ω W env σ s _ E room G fun h' tk σ' wr' ex => ?_)
      exact k h' tk σ' wr' ex
    · cases he
  · exact tstAll_ok RT room he G k
  · rename_i l ops cs pos
    obtain ⟨p, h1, he1⟩ := Option.bind_eq_some_iff.mp he
    show wpAny _ _ (eval l env >>= fun v => testChain pos v ops (markedEach ops cs (evalEach cs env))) _ _ _
    refine wpAny_bind (R.ok _ κ ρ H p.1 p.2 h1 A ω W env σ s _ E room G fun w1 h1' tk1 σ1 wr1 v1 e1 => ?_)
    exact testChain_ok R room he1 v1 (G.step wr1 e1) (k.after (tk := tk1) e1)
  · cases he
  · rename_i n1 n2 n3 n4
    obtain ⟨p, h1, he1⟩ := Option.bind_eq_some_iff.mp he
    obtain ⟨c, h2, he2⟩ := Option.map_eq_some_iff.mp he1
    cases he2
    refine PyProof.Rows.isTrue_plain (R.ok e κ ρ H p.1 p.2 h1 A ω W env σ s _ E room G fun w1 h1' tk1 σ1 wr1 v1 e1 => truthV_ok h2 v1 (k _ _ _ wr1 e1)) ?_
    cases e <;> first | rfl | (exact (n1 _ _ _ rfl).elim) | (exact (n2 _ _ _ rfl).elim) | (exact (n3 _ _ _ _ rfl).elim) | (exact (n4 _ _ _ _ rfl).elim)

theorem evT_ok (B : Base prog w hT σ₀ n g) : ∀ m : Nat, RecOK g.z prog w hT σ₀ b n (evT g b m).1 ∧ RecTOK g.z prog w hT σ₀ b n (evT g b m).2
  | 0 => ⟨⟨fun e κ ρ H v H' he => by simp [evT] at he⟩, ⟨fun e κ ρ H v H' he => by simp [evT] at he⟩⟩
  | m + 1 => ⟨evF_ok B (evT_ok B m).1 (evT_ok B m).2, tstF_ok (evT_ok B m).1 (evT_ok B m).2⟩

theorem swaps_not {e : Expr} {t : Option Expr} {l : Nat} {env : Env} (h : notComp e = true) : swapsWith e t l env = pure false := by
  cases e <;> first | rfl | (simp [notComp] at h)

theorem not_interactive {env : Env} (h : env.scope.kind = .function) : interactive env = false := by
  unfold interactive; rw [h]; rfl

theorem isComp {e : Expr} (h : notComp e = false) {rec : Rec} {recT : RecT} {κ : Kap} {ρ : Rho} {H : Hp} {p : V × Hp} (he : evF g b rec recT e κ ρ H = some p) : ∃ elt gens scope pos, e = .ListComp elt gens scope pos := by
  cases e <;> simp [notComp] at h <;> first | exact ⟨_, _, _, _, rfl⟩ | (simp [evF] at he)

theorem exec_Assign1 {env : Env} (t e : Expr) (pos : Pos) : exec (.Assign [t] e pos) env = (do
    standAt pos
    if ← swapsWith e (some t) pos.line env then do
      evalThenUse e env fun v => assignAll v ((assignEach [t] env).map (·.2))
      pure .next
    else do
      let v ← eval e env
      assignStores env v (← swappedStores [t] e env) ((assignEach [t] env).map (·.2))) := rfl
theorem swapped_name {env : Env} (x : Str) (p : Pos) (e : Expr) : swappedStores [.Name x p] e env = pure none := rfl
theorem stores_name {env : Env} (x : Str) (p : Pos) (v : Value) : assignStores env v none ((assignEach [.Name x p] env).map (·.2)) = (do assign (.Name x p) env v; pure .next) := rfl
theorem swaps_some {env : Env} (elt : Expr) (gens : List Comprehension) (scope : Scope) (cp : Pos) (x : Str) (xp : Pos) (l : Nat) : ∃ c, swapsWith (.ListComp elt gens scope cp) (some (.Name x xp)) l env = pure c := ⟨_, rfl⟩

section
variable {A : Around} {E : Value → Shared → Prop} {s : Shared} {σ : List Addr} {H H' : Hp} {κ : Kap} {ω : Str → Bool} {ρ ρ' : Rho} {W : List Addr} {env : Env} {rec : Rec} {recT : RecT} {recS : RecS} {fl : Fl} {Q : Flow → Shared → Prop}

theorem stExpr_ok {e : Expr} {pos : Pos} {p : V × Hp} (R : RecOK z prog w hT σ₀ b n rec) (room : Room A n) (hnc : notComp e = true) (h1 : rec e κ ρ H = some p) (hn : isNoneV p.1 = true) (G : Good hT σ₀ κ ω ρ W env b σ H s.heap)
    (k : KontS z hT σ₀ b κ ω W env σ .next ρ p.2 Q s) (ht : z ≤ s.toks := by first | assumption | exact Tok1.pos _ | exact Nat.zero_le _) : wpAny (model prog w) A (exec (.Expr e pos) env) Q E s := by
  refine wpAny_Expr (R.ok e κ ρ H p.1 p.2 h1 A ω W env σ s _ E room G fun w1 h1' tk1 σ1 wr1 v1 e1 => ?_) (not_interactive G.env.fn) (swaps_not hnc)
  obtain ⟨pv, pH⟩ := p
  cases pv <;> simp [isNoneV] at hn
  cases v1
  exact k .next h1' tk1 σ1 (G.step wr1 e1) .next e1.nil

theorem stName_ok {e : Expr} {x : Str} {xp pos : Pos} {p : V × Hp} (R : RecOK z prog w hT σ₀ b n rec) (room : Room A n) (hω : ω x = true) (hnc : notComp e = true) (h1 : rec e κ ρ H = some p) (G : Good hT σ₀ κ ω ρ W env b σ H s.heap)
    (k : KontS z hT σ₀ b κ ω W env σ .next (upd ρ x p.1) p.2 Q s) (ht : z ≤ s.toks := by first | assumption | exact Tok1.pos _ | exact Nat.zero_le _) : wpAny (model prog w) A (exec (.Assign [.Name x xp] e pos) env) Q E s := by
  refine wpAny_Assign_Name (R.ok e κ ρ H p.1 p.2 h1 A ω W env σ s _ E room G fun w1 h1' tk1 σ1 wr1 v1 e1 => ?_) (swaps_not hnc)
  refine lift (Tok1.pos tk1) (store_ok (s := { s with heap := h1', toks := tk1.n }) hω (G.step wr1 e1) v1 fun h2 tk2 G2 e2 ht2 => ?_)
  exact k .next h2 ⟨tk2, ht2⟩ σ1 G2 .next (e1.nil.trans e2)

theorem stComp_ok {elt : Expr} {gens : List Comprehension} {scope : Scope} {cp : Pos} {x : Str} {xp pos : Pos} {p : V × Hp} (B : Base prog w hT σ₀ n g) (R : RecOK z prog w hT σ₀ b n rec) (RT : RecTOK z prog w hT σ₀ b n recT) (room : Room A n) (hω : ω x = true)
    (hev : evComp g rec recT elt gens scope κ ρ H = some p) (G : Good hT σ₀ κ ω ρ W env b σ H s.heap)
    (k : KontS z hT σ₀ b κ ω W env σ .next (upd ρ x p.1) p.2 Q s) (ht : z ≤ s.toks := by first | assumption | exact Tok1.pos _ | exact Nat.zero_le _) : wpAny (model prog w) A (exec (.Assign [.Name x xp] (.ListComp elt gens scope cp) pos) env) Q E s := by
  rw [exec_Assign1]
  obtain ⟨c, hsw⟩ := swaps_some (env := env) elt gens scope cp x xp pos.line
  rw [hsw, swapped_name]
  refine wpAny_bind (wpAny_standAt (wpAny_bind (wpAny_pure ?_)))
  cases c with
  | true =>
    refine wpAny_bind (comp_use B R RT room hev hω G fun h' tk σ' G' e' => wpAny_pure ?_)
    exact k .next h' tk σ' G' .next e'
  | false =>
    refine wpAny_bind (comp_ok B R RT room hev G fun w1 h1' tk1 σ1 wr1 v1 e1 => wpAny_bind (wpAny_pure ?_))
    rw [stores_name]
    refine wpAny_bind (wpAny_assign_Name (lift (Tok1.pos tk1) (store_ok (s := { s with heap := h1', toks := tk1.n }) hω (G.step wr1 e1) v1 fun h2 tk2 G2 e2 ht2 => wpAny_pure ?_)))
    exact k .next h2 ⟨tk2, ht2⟩ σ1 G2 .next (e1.nil.trans e2)

theorem stIf_ok {t : Expr} {body orelse : List Stmt} {pos : Pos} {p : Bool × Hp} (RT : RecTOK z prog w hT σ₀ b n recT) (RS : RecSOK z prog w hT σ₀ b n κ ω recS) (room : Room A n) (h1 : recT t κ ρ H = some p)
    (h2 : (if p.1 then exs recS body ρ p.2 else exs recS orelse ρ p.2) = some (fl, ρ', H')) (G : Good hT σ₀ κ ω ρ W env b σ H s.heap)
    (k : KontS z hT σ₀ b κ ω W env σ fl ρ' H' Q s) (ht : z ≤ s.toks := by first | assumption | exact Tok1.pos _ | exact Nat.zero_le _) : wpAny (model prog w) A (exec (.If t body orelse pos) env) Q E s := by
  refine wpAny_If (RT.ok t κ ρ H p.1 p.2 h1 A ω W env σ s _ E room G fun h' tk σ' wr' ex => ?_)
  have G' := G.step wr' ex
  split at h2
  · rename_i hp
    rw [if_pos hp]
    exact exs_ok RS room h2 G' (k.after (tk := tk) ex.nil)
  · rename_i hp
    rw [if_neg hp]
    exact exs_ok RS room h2 G' (k.after (tk := tk) ex.nil)

theorem stFor_ok {t it : Expr} {body : List Stmt} {pos : Pos} {items : List V} {c : Option Nat} {H1 : Hp} (B : Base prog w hT σ₀ n g) (R : RecOK z prog w hT σ₀ b n rec) (RS : RecSOK z prog w hT σ₀ b n κ ω recS) (room : Room A n) (h1 : evIter g rec κ ρ it H = some ((items, c), H1))
    (h2 : loopS c items (fun x ρ h => (bindT ω t x ρ).bind fun ρ' => exs recS body ρ' h) items ρ H1 = some (fl, ρ', H')) (G : Good hT σ₀ κ ω ρ W env b σ H s.heap)
    (k : KontS z hT σ₀ b κ ω W env σ fl ρ' H' Q s) (ht : z ≤ s.toks := by first | assumption | exact Tok1.pos _ | exact Nat.zero_le _) : wpAny (model prog w) A (exec (.For t it body [] pos) env) Q E s := by
  have hns : notSet it = true := by
    unfold evIter at h1
    split at h1
    · rename_i q; exact q
    · cases h1
  refine wpAny_For (evIter_ok B R room h1 G fun a h' tk σ' wr' hi ex hfr => ?_) (notSet_folded hns)
  have G' := G.step wr' ex
  have hnew : ∀ a' o, s.heap.get? a' = some o → a ≠ a' := fun a' o e q => by rw [← q, hfr] at e; cases e
  refine for_turns RS room (hs := s.heap) (σs := σ) ?_ ?_ ?_ ?_ hfr k h2 G' hi ex.nil
  · intro hw
    obtain ⟨o, e, _⟩ := G.env.wobj a hw
    rw [hfr] at e; cases e
  · obtain ⟨m, ⟨o, _, _, e, _⟩, _⟩ := G.env.ns
    exact hnew _ o e
  · intro x c' hk hx
    obtain ⟨c2, v₀, e1, ⟨o, e2, _⟩, _⟩ := G.env.cell x hk
    rw [hx] at e1; cases e1
    exact hnew _ o e2
  · exact none_top G.wr.top hfr
end

theorem exF_ok {κ : Kap} {ω : Str → Bool} {rec : Rec} {recT : RecT} {recS : RecS} (B : Base prog w hT σ₀ n g) (R : RecOK z prog w hT σ₀ b n rec) (RT : RecTOK z prog w hT σ₀ b n recT) (RS : RecSOK z prog w hT σ₀ b n κ ω recS)
    (hcomp : ∀ e κ ρ H p, rec e κ ρ H = some p → notComp e = false → ∃ elt gens scope pos rec' recT', e = .ListComp elt gens scope pos ∧ RecOK z prog w hT σ₀ b n rec' ∧ RecTOK z prog w hT σ₀ b n recT' ∧ evComp g rec' recT' elt gens scope κ ρ H = some p) :
    RecSOK z prog w hT σ₀ b n κ ω (exF g b ω κ rec recT recS) := by
  refine ⟨?_⟩
  intro st ρ H fl ρ' H' he A W env σ s Q E room G k ht
  unfold exF at he
  split at he
  · split at he
    · rename_i hnc
      obtain ⟨p, h1, he1⟩ := Option.bind_eq_some_iff.mp he
      split at he1
      · rename_i hn
        cases he1
        exact stExpr_ok R room hnc h1 hn G k
      · cases he1
    · cases he
  · cases he; exact wpAny_bind (wpAny_standAt (wpAny_pure (k .brk s.heap ⟨s.toks, ht⟩ σ G .brk (Ext.refl ..))))
  · cases he; exact wpAny_bind (wpAny_standAt (wpAny_pure (k .cont s.heap ⟨s.toks, ht⟩ σ G .cont (Ext.refl ..))))
  · obtain ⟨p, h1, he1⟩ := Option.map_eq_some_iff.mp he
    cases he1
    refine wpAny_Return_some (R.ok _ κ ρ H p.1 p.2 h1 A ω W env σ s _ E room G fun w1 h1' tk1 σ1 wr1 v1 e1 => ?_)
    exact k _ h1' tk1 σ1 (G.step wr1 e1) (.ret v1) e1.nil
  · rename_i ts e pos
    split at he
    · split at he
      · rename_i hω
        obtain ⟨p, h1, he1⟩ := Option.map_eq_some_iff.mp he
        cases he1
        cases hnc : notComp e with
        | true => exact stName_ok R room hω hnc h1 G k
        | false =>
          obtain ⟨elt, gens, scope, cp, rec', recT', rfl, R', RT', hev⟩ := hcomp e κ ρ H p h1 hnc
          exact stComp_ok B R' RT' room hω hev G k
      · cases he
    · cases he
  · obtain ⟨p, h1, he1⟩ := Option.bind_eq_some_iff.mp he
    exact stIf_ok RT RS room h1 he1 G k
  · split at he
    · obtain ⟨q, h1, he1⟩ := Option.bind_eq_some_iff.mp he
      obtain ⟨⟨items, c⟩, H1⟩ := q
      exact stFor_ok B R RS room h1 he1 G k
    · cases he
  · cases he

theorem exT_ok {κ : Kap} {ω : Str → Bool} (B : Base prog w hT σ₀ n g) : ∀ m : Nat, RecSOK g.z prog w hT σ₀ b n κ ω (exT g b ω κ m)
  | 0 => ⟨fun st ρ H fl ρ' H' he => by simp [exT] at he⟩
  | m + 1 => by
    refine exF_ok B (evT_ok B m).1 (evT_ok B m).2 (exT_ok B m) fun e κ' ρ H p he hnc => ?_
    cases m with
    | zero => simp [evT] at he
    | succ m =>
      obtain ⟨elt, gens, scope, pos, rfl⟩ := isComp hnc he
      exact ⟨elt, gens, scope, pos, _, _, rfl, (evT_ok B m).1, (evT_ok B m).2, he⟩
end
end Mine
end

section
set_option autoImplicit false
set_option maxRecDepth 100000
namespace Mine
open PySem PyProof.Rows

structure FdOK (hT : Heap) (fd : FuncData) (f : FnD) : Prop where
  body : fd.body = .stmts f.body
  scope : fd.scope = f.scope
  clo : fd.closure = []
  glob : fd.globals = mainGlobals
  blt : fd.builtins = builtinsNs
  kind : f.scope.kind = .function
  gen : f.scope.isGenerator = false
  co : f.scope.isCoroutine = false
  bind : ∀ vals : List Value, vals.length = f.params.length → bindArgs fd ⟨vals, []⟩ = pure (f.params.zip vals)
  own : ∀ x ∈ f.params, ownName f.scope x = true
  nofree : ∀ p ∈ f.scope.names, p.2 ≠ .free
  code : hT.CodeRec fd.code fd.qualname

theorem cellsFrom_has {x : Str} : ∀ (names : List (Str × NameKind)) (n : Nat) (acc : List (Str × Addr)), (acc.lookup x).isSome = true ∨ (x, NameKind.cell) ∈ names → ((cellsFrom n names acc).lookup x).isSome = true
  | [], _, _, h => by
    rcases h with h | h
    · exact h
    · cases h
  | (y, k) :: r, n, acc, h => by
    unfold cellsFrom
    split
    · rename_i hk
      refine cellsFrom_has r _ _ ?_
      rcases h with h | h
      · left
        rw [List.lookup_cons]
        split
        · rfl
        · exact h
      · rcases List.mem_cons.mp h with e | e
        · left
          cases e
          simp
        · exact .inr e
    · rename_i hk
      refine cellsFrom_has r _ _ ?_
      rcases h with h | h
      · exact .inl h
      · rcases List.mem_cons.mp h with e | e
        · cases e; exact (hk rfl).elim
        · exact .inr e

theorem bindL_eq {kindOf : Str → Option NameKind} {x : Str} (hx : kindOf x = some .local) : ∀ (binds : List (Str × Value)) (m : Str → Option Value), bindL kindOf binds m x = (binds.reverse.lookup x).or (m x)
  | [], m => by simp [bindL]
  | (y, v) :: r, m => by
    unfold bindL
    rw [bindL_eq hx r, List.reverse_cons, List.lookup_append]
    by_cases h : y = x
    · subst h
      rw [if_pos hx]
      simp [List.lookup_cons, Option.or_assoc]
    · have e : (if kindOf y = some .local then (fun z => if z = y then some v else m z) else m) x = m x := by
        split
        · simp [Ne.symm h]
        · rfl
      rw [e]
      have : (x == y) = false := by simpa using Ne.symm h
      simp [List.lookup_cons, this]
theorem bindC_eq {kindOf : Str → Option NameKind} {x : Str} (hx : kindOf x ≠ some .local) : ∀ (binds : List (Str × Value)) (m : Str → Option Value), bindC kindOf binds m x = (binds.reverse.lookup x).or (m x)
  | [], m => by simp [bindC]
  | (y, v) :: r, m => by
    unfold bindC
    rw [bindC_eq hx r, List.reverse_cons, List.lookup_append]
    by_cases h : y = x
    · subst h
      rw [if_neg hx]
      simp [List.lookup_cons, Option.or_assoc]
    · have e : (if kindOf y = some .local then m else (fun z => if z = y then some v else m z)) x = m x := by
        split
        · rfl
        · simp [Ne.symm h]
      rw [e]
      have : (x == y) = false := by simpa using Ne.symm h
      simp [List.lookup_cons, this]

inductive OptR (σ : List Addr) (h : Heap) : Option V → Option Value → Prop
  | none : OptR σ h none none
  | some {v wv} : VR σ h v wv → OptR σ h (some v) (some wv)
theorem OptR.or {σ : List Addr} {h : Heap} {a c : Option V} {b d : Option Value} (x : OptR σ h a b) (y : OptR σ h c d) : OptR σ h (a.or c) (b.or d) := by
  cases x with
  | none => exact y
  | some q => exact .some q
theorem zip_lookup {σ : List Addr} {h : Heap} {x : Str} : ∀ {ps : List Str} {vs : List V} {ws : List Value}, VRs σ h vs ws → OptR σ h ((ps.zip vs).reverse.lookup x) ((ps.zip ws).reverse.lookup x)
  | [], _, _, _ => .none
  | p :: ps, _, _, .nil => .none
  | p :: ps, _, _, .cons (v := v1) (vs := vs) (w := w1) (ws := ws) hx hr => by
    rw [List.zip_cons_cons, List.zip_cons_cons, List.reverse_cons, List.reverse_cons, List.lookup_append, List.lookup_append]
    refine (zip_lookup hr).or ?_
    simp only [List.lookup_cons, List.lookup_nil]
    cases (x == p) with
    | true => exact .some hx
    | false => exact .none

section
variable {z : Nat} {prog : Program} {w : World} {hT : Heap} {σ₀ : List Addr} {n : Nat} {g : Glob}

theorem call_cells {A : Around} {s : Shared} {R : Result → Shared → Prop} {a : Addr} {o : Obj} {fd : FuncData} {body : List Stmt} {vals : List Value} {binds : List (Str × Value)}
    (hroom : A.depth < recursionLimit) (ho : s.heap.get? a = some o) (hdata : o.data = .func fd) (hlim : s.heap.NoLimit) (hcd : s.heap.CodeRec fd.code fd.qualname)
    (hbody : fd.body = .stmts body) (hbind : bindArgs fd ⟨vals, []⟩ = pure binds) (hclo : fd.closure = [])
    (hkind : ∀ x ∈ binds, fd.scope.names.lookup x.1 = some .local ∨ (fd.scope.names.lookup x.1 = some .cell ∧ ((cellsFrom (s.heap.objs.size + 1) fd.scope.names []).lookup x.1).isSome = true))
    (ht : z ≤ s.toks) (hco : fd.scope.isCoroutine = false) (hgen : fd.scope.isGenerator = false) (hk : fd.scope.kind = .function)
    (h : ∀ s₁, InCallC s (callEnvC fd s.heap.objs.size a).locals (bindL (callEnvC fd s.heap.objs.size a).kindOf binds fun _ => none) (callEnvC fd s.heap.objs.size a).cells
        (bindC (callEnvC fd s.heap.objs.size a).kindOf binds fun _ => none) s₁ → z ≤ s₁.toks →
      wpAny (model prog w) (A.deeper (callEnvC fd s.heap.objs.size a)) (execs body (callEnvC fd s.heap.objs.size a)) (fun f s' => R (.ok (.ret (match f with | .ret v => v | _ => .none))) s')
        (fun e s' => wpAny (model prog w) (A.deeper (callEnvC fd s.heap.objs.size a)) (leaving (callEnvC fd s.heap.objs.size a) e) (fun _ s'' => R (.error e) s'') (fun e' s'' => R (.error e') s'') s') s₁) :
    codeAny (model prog w) A (.call (.ref a) ⟨vals, []⟩) R s := by
  refine codeAny_call_function hroom ho hdata hco hgen hbody hcd ?_
  rw [hbind, hclo]
  refine wpAny_pure (lift ht (wpAny_newFunctionEnv_cells hk hkind fun env he s' x ht' => ?_))
  subst he
  exact ⟨hlim.keeps x.toInCall.keep, codeAny_func (h s' x ht')⟩

theorem runFn_ok {fd : FuncData} {f : FnD} {fa : Addr} {o : Obj} (B : Base prog w hT σ₀ n g) (hlim : hT.NoLimit) (ho : hT.get? fa = some o) (hd : o.data = .func fd) (F : FdOK hT fd f) : FnSound g.z prog w hT σ₀ (n + 1) (runFn g f) fa := by
  intro args H v H' he A σ s Q E ws room wr tab hvs k ht
  unfold runFn at he
  split at he
  · rename_i hlen
    have hl2 : ws.length = f.params.length := by rw [← hvs.length]; exact hlen
    have hd9 := room.hd
    refine wpAny_call (call_cells (body := f.body) (binds := f.params.zip ws) (by show A.depth < 1000; omega) (wr.top _ _ ho) hd (hlim.keeps wr.top) (F.code.keeps wr.top) F.body (F.bind ws hl2) F.clo ?_ ht
      (by rw [F.scope]; exact F.co) (by rw [F.scope]; exact F.gen) (by rw [F.scope]; exact F.kind) ?_)
    · intro x hx
      rw [F.scope]
      have hm : x.1 ∈ f.params := (List.of_mem_zip hx).1
      have := F.own _ hm
      unfold ownName at this
      simp only [Bool.or_eq_true, beq_iff_eq] at this
      rcases this with q | q
      · exact .inl q
      · exact .inr ⟨q, cellsFrom_has _ _ _ (.inr (mem_of_lookup q))⟩
    · intro s₁ hI ht₁
      have hk : ∀ x, (callEnvC fd s.heap.objs.size fa).kindOf x = f.scope.names.lookup x := fun x => by
        show fd.scope.names.lookup x = _
        rw [F.scope]
      have hcs : (callEnvC fd s.heap.objs.size fa).cells = cellsFrom (s.heap.objs.size + 1) f.scope.names [] := by
        show cellsFrom (s.heap.objs.size + 1) fd.scope.names [] = _
        rw [F.scope]
      have hL : (callEnvC fd s.heap.objs.size fa).locals = s.heap.objs.size := rfl
      generalize henv : callEnvC fd s.heap.objs.size fa = env at hI hk hcs hL
      have hfn : env.scope.kind = .function := by rw [← henv]; show fd.scope.kind = _; rw [F.scope]; exact F.kind
      have hgl : env.globals = mainGlobals := by rw [← henv]; exact F.glob
      have hbl : env.builtins = builtinsNs := by rw [← henv]; exact F.blt
      obtain ⟨h₁, tk₁, rfl⟩ := hI.toInCall.same
      have hkeep : ∀ a o, s.heap.get? a = some o → h₁.get? a = some o := hI.toInCall.keep
      have wr₁ : WR hT σ H h₁ := ⟨wr.len, fun a xs r e1 e2 => let ⟨arr, p, q, l⟩ := wr.obj a xs r e1 e2; ⟨arr, p.at fun o e => hkeep _ _ e, q.mono (prefix_same _) (Tups.keeps hkeep), l⟩, wr.nodup, fun a o e => hkeep _ _ (wr.top a o e)⟩
      have hvs₁ : VRs σ h₁ args ws := hvs.mono (prefix_same _) (Tups.keeps hkeep)
      have hcellW : ∀ x c, env.cells.lookup x = some c → s.heap.get? c = none := fun x c e => get_ge (Nat.le_of_lt (by have := hI.above x c (mem_of_lookup e); rw [hL] at this; exact this))
      let W := env.locals :: (f.scope.names.filterMap fun p => env.cells.lookup p.1)
      have hW : ∀ a ∈ W, s.heap.get? a = none := fun a ha => by
        rcases List.mem_cons.mp ha with q | q
        · rw [q, hL]; exact get_size _
        · obtain ⟨p, _, e⟩ := List.mem_filterMap.mp q
          exact hcellW _ _ e
      have G : Good hT σ₀ (fun x => f.scope.names.lookup x) (fun x => ownName f.scope x) (fun x => (f.params.zip args).reverse.lookup x) W env H.length σ H h₁ := by
        refine ⟨wr₁, ⟨hfn, hk, hgl, hbl, ⟨_, hI.toInCall.ns, fun x v hx hv => ?_⟩, fun x hx => ?_, fun x y c h1 h2 => name_of_addr hI.apart (mem_of_lookup h1) (mem_of_lookup h2), fun x hx => ?_, List.mem_cons_self, fun a ha => ?_⟩, Nat.le_refl _, ?_, ?_, tab⟩
        · have z := zip_lookup (x := x) (ps := f.params) hvs₁
          rw [hv] at z
          cases hz : (f.params.zip ws).reverse.lookup x with
          | none => rw [hz] at z; cases z
          | some wv =>
            rw [hz] at z
            cases z with | some q =>
            refine ⟨wv, ?_, q⟩
            rw [bindL_eq (by rw [hk]; exact hx), hz]; rfl
        · have hc : f.scope.names.lookup x = some .cell := by
            rcases hx with q | q
            · exact q
            · exact (F.nofree _ (mem_of_lookup q) rfl).elim
          have hs := cellsFrom_has f.scope.names (s.heap.objs.size + 1) [] (.inr (mem_of_lookup hc))
          rw [← hcs] at hs
          obtain ⟨c, e⟩ := Option.isSome_iff_exists.mp hs
          refine ⟨c, _, e, hI.cell x c e, fun v hv => ?_⟩
          have z := zip_lookup (x := x) (ps := f.params) hvs₁
          rw [hv] at z
          cases hz : (f.params.zip ws).reverse.lookup x with
          | none => rw [hz] at z; cases z
          | some wv =>
            rw [hz] at z
            cases z with | some q =>
            refine ⟨wv, ?_, q⟩
            rw [bindC_eq (by rw [hk]; simp only [hc]; decide), hz]; rfl
        · have : ownName f.scope x = true := hx
          unfold ownName at this
          simp only [Bool.or_eq_true, beq_iff_eq] at this
          rcases this with q | q
          · exact .inl q
          · exact .inr ⟨q, fun c e => List.mem_cons_of_mem _ (List.mem_filterMap.mpr ⟨(x, .cell), mem_of_lookup q, e⟩)⟩
        · rcases List.mem_cons.mp ha with q | q
          · obtain ⟨oL, es, ep, e1, e2, _⟩ := hI.toInCall.ns
            exact ⟨oL, by rw [q]; exact e1, by rw [e2]; intro _ _ e; cases e⟩
          · obtain ⟨p, _, e⟩ := List.mem_filterMap.mp q
            obtain ⟨oc, e1, e2⟩ := hI.cell _ _ e
            exact ⟨oc, e1, by rw [e2]; intro _ _ e; cases e⟩
        · intro r hr
          rw [List.drop_eq_nil_of_le (by rw [wr.len]; exact Nat.le_refl _)] at hr
          cases hr
        · exact fun a ha => none_top wr.top (hW a ha)
      have room' : Room (A.deeper env) n := ⟨room.hh, by show A.depth + 1 + n < 900; omega, by have := room.hu; show A.units + 3 + 10 * n + 300 < cLine; omega⟩
      -- the end of the call
      have fin : ∀ fl (ρ' : Rho), exs (exT g H.length (fun x => ownName f.scope x) (fun x => f.scope.names.lookup x) fuel) f.body (fun x => (f.params.zip args).reverse.lookup x) H = some (fl, ρ', H') → (fl = .ret v ∨ (fl = .next ∧ v = .none)) →
          wpAny (model prog w) (A.deeper env) (execs f.body env) (fun fw s' => (match (Except.ok (Flow.ret (match fw with | .ret v => v | _ => .none)) : Result) with | .ok (.ret v) => Q v s' | .ok _ => False | .error e => E e s'))
            (fun e s' => wpAny (model prog w) (A.deeper env) (leaving env e) (fun _ s'' => E e s'') (fun e' s'' => E e' s'') s') { s with heap := h₁, toks := tk₁ } := by
        intro fl ρ' hev hfl
        refine exs_ok (exT_ok B fuel) room' hev G fun fw h' tk σ' G' hf ex => ?_
        have exE : Ext [] H.length σ s.heap σ' h' := by
          obtain ⟨δ, e1, e2⟩ := ex.pre
          refine ⟨⟨δ, e1, fun r hr => ?_⟩, fun a o e => ex.there a o (hkeep a o e), fun a o e _ hdr => ex.keep a o (hkeep a o e) (fun q => by rw [hW a q] at e; cases e) hdr⟩
          cases q : s.heap.get? r with
          | none => rfl
          | some o => have := e2 r hr; rw [hkeep r o q] at this; cases this
        rcases hfl with rfl | ⟨rfl, rfl⟩
        · cases hf with | ret hv => exact k _ h' tk σ' G'.wr hv exE
        · cases hf; exact k _ h' tk σ' G'.wr .none exE
      split at he
      · rename_i v' ρ' H'' hev
        cases he
        exact fin _ _ hev (.inl rfl)
      · rename_i ρ' H'' hev
        cases he
        exact fin _ _ hev (.inr ⟨rfl, rfl⟩)
      · cases he
  · cases he
end
end Mine
end

section
set_option autoImplicit false
set_option maxRecDepth 100000
namespace Mine
open PySem PyProof.Rows PySem.W

mutual
noncomputable def vchk (K : Frag) (σ₀ : List Addr) : V → Value → Bool
  | .none, .none => true
  | .bool a, .bool b => a == b
  | .int a, .int b _ => a == b
  | .str a, .str b _ => a == b && decide (a.length ≤ sizeLine)
  | .tup vs, .ref r => match K.lookup r with
    | some o => (match o.cls with | .type t => t == "tuple" | _ => false) && (match o.data with | .seq arr _ => vchks K σ₀ vs arr.toList | _ => false) && decide (vs.length ≤ sizeLine)
    | none => false
  | .ref a, .ref r => σ₀[a]? == some r
  | _, _ => false
noncomputable def vchks (K : Frag) (σ₀ : List Addr) : List V → List Value → Bool
  | [], [] => true
  | v :: vs, w :: ws => vchk K σ₀ v w && vchks K σ₀ vs ws
  | _, _ => false
end

mutual
theorem vchk_ok {K : Frag} {σ₀ : List Addr} {h : Heap} (X : K.In h) : ∀ {v : V} {w : Value}, vchk K σ₀ v w = true → VR σ₀ h v w
  | .none, w, e => by cases w <;> simp [vchk] at e; exact .none
  | .bool a, w, e => by cases w <;> simp [vchk] at e; subst e; exact .bool _
  | .int a, w, e => by cases w <;> simp [vchk] at e; subst e; exact .int _ _
  | .str a, w, e => by cases w <;> simp [vchk] at e; obtain ⟨rfl, e⟩ := e; exact .str _ _ e
  | .type _, w, e => by cases w <;> simp [vchk] at e
  | .ref a, w, e => by cases w <;> simp [vchk] at e; exact .ref e
  | .tup vs, w, e => by
    cases w <;> simp only [vchk] at e <;> try cases e
    rename_i r
    split at e
    · rename_i o ho
      simp only [Bool.and_eq_true, decide_eq_true_eq] at e
      obtain ⟨⟨e1, e2⟩, e3⟩ := e
      have hc : o.cls = .type "tuple" := by
        split at e1
        · rename_i t ht; rw [ht, beq_iff_eq.mp e1]
        · cases e1
      split at e2
      · rename_i arr n hd
        exact .tup (X _ _ ho) hc hd (vchks_ok X e2) e3
      · cases e2
    · cases e
theorem vchks_ok {K : Frag} {σ₀ : List Addr} {h : Heap} (X : K.In h) : ∀ {vs : List V} {ws : List Value}, vchks K σ₀ vs ws = true → VRs σ₀ h vs ws
  | [], ws, e => by cases ws <;> simp [vchks] at e; exact .nil
  | v :: vs, ws, e => by
    cases ws with
    | nil => simp [vchks] at e
    | cons w ws =>
      simp only [vchks, Bool.and_eq_true] at e
      exact .cons (vchk_ok X e.1) (vchks_ok X e.2)
end

structure FdS (fd : FuncData) (f : FnD) : Prop where
  body : fd.body = .stmts f.body
  scope : fd.scope = f.scope
  clo : fd.closure = []
  glob : fd.globals = mainGlobals
  blt : fd.builtins = builtinsNs
  kind : f.scope.kind = .function
  gen : f.scope.isGenerator = false
  co : f.scope.isCoroutine = false
  bind : ∀ vals : List Value, vals.length = f.params.length → bindArgs fd ⟨vals, []⟩ = pure (f.params.zip vals)
  own : (f.params.all fun x => ownName f.scope x) = true
  nofree : (f.scope.names.all fun p => p.2 != .free) = true

noncomputable def FnAtK (K : Frag) (es : Array DictEntry) (p : Str × FnD) : Prop :=
  ∃ fa o fd c oc vs t, nsFind es p.1 = some (.ref fa) ∧ K.lookup fa = some o ∧ o.data = .func fd ∧ FdS fd p.2 ∧ fd.code = .ref c ∧ K.lookup c = some oc ∧ oc.data = .fields vs ∧ vs[1]? = some (.str fd.qualname t)

theorem fnIn_mem {x : Str} {f : FnD} : ∀ {body : List Stmt}, fnIn x body = some f → (x, f) ∈ fnList body
  | [], h => by simp [fnIn] at h
  | st :: r, h => by
    unfold fnIn at h
    unfold fnList
    split at h
    · rename_i heq; cases heq
    · rename_i heq
      injection heq with h1 h2
      subst h1 h2
      split at h
      · rename_i hx
        cases h
        subst hx
        exact List.mem_cons_self
      · exact List.mem_cons_of_mem _ (fnIn_mem h)
    · rename_i n1 heq
      injection heq with h1 h2
      subst h1 h2
      exact fnIn_mem h

noncomputable def bnames : List Str := ["len", "ord", "chr", "isinstance", "type", "sorted", "any", "range", "list", "tuple", "str", "bool"]
theorem bval_mem {x : Str} {fv : Value} (h : bval x = some fv) : x ∈ bnames := by
  unfold bval at h
  unfold bnames
  by_cases h1 : x = "len"
  · rw [h1]; simp
  rw [if_neg h1] at h
  by_cases h1 : x = "ord"
  · rw [h1]; simp
  rw [if_neg h1] at h
  by_cases h1 : x = "chr"
  · rw [h1]; simp
  rw [if_neg h1] at h
  by_cases h1 : x = "isinstance"
  · rw [h1]; simp
  rw [if_neg h1] at h
  by_cases h1 : x = "type"
  · rw [h1]; simp
  rw [if_neg h1] at h
  by_cases h1 : x = "sorted"
  · rw [h1]; simp
  rw [if_neg h1] at h
  by_cases h1 : x = "any"
  · rw [h1]; simp
  rw [if_neg h1] at h
  by_cases h1 : x = "range"
  · rw [h1]; simp
  rw [if_neg h1] at h
  by_cases h1 : x = "list"
  · rw [h1]; simp
  rw [if_neg h1] at h
  by_cases h1 : x = "tuple"
  · rw [h1]; simp
  rw [if_neg h1] at h
  by_cases h1 : x = "str"
  · rw [h1]; simp
  rw [if_neg h1] at h
  by_cases h1 : x = "bool"
  · rw [h1]; simp
  rw [if_neg h1] at h
  cases h
theorem boot_bval : (bnames.all fun x => decide (bootBuiltins x = bval x) && decide (x ≠ "__name__")) = true := by decide +kernel

/-- what the top of a law leaves, as far as the small reading needs it -/
structure TopK (prog : Program) (K : Frag) (es : Array DictEntry) (tv : List (Str × V)) (σ₀ : List Addr) : Prop where
  glob : ∃ o ep, K.lookup mainGlobals = some o ∧ o.data = .dict es ep
  vals : (tv.all fun p => match tv.lookup p.1, nsFind es p.1 with | some v, some wv => vchk K σ₀ v wv | _, _ => false) = true
  miss : (bnames.all fun x => (nsFind es x).isNone) = true
  fns : ∀ p ∈ fnList prog.main.body, FnAtK K es p

theorem base_ok_K {prog : Program} {w : World} {K : Frag} {es : Array DictEntry} {tv : List (Str × V)} {σ₀ : List Addr} {hT : Heap} {mg mb : Str → Option Value} (T : TopK prog K es tv σ₀) (X : K.In hT) (hg : hT.Ns mainGlobals mg) (hb : hT.Ns builtinsNs mb)
    (hbb : ∀ x : Str, x ≠ "__name__" → mb x = bootBuiltins x) (hlim : hT.NoLimit) (u : Bool) : ∀ d, Base prog w hT σ₀ d (globs prog (fun x => tv.lookup x) u d) := by
  obtain ⟨o3, ep3, k3, d3⟩ := T.glob
  have hg' : hT.Ns mainGlobals (fun x => nsFind es x) := by
    obtain ⟨o, es', ep, h1, h2, h3, h4⟩ := hg
    rw [X _ _ k3] at h1
    cases h1
    rw [d3] at h2
    cases h2
    exact ⟨o3, es, ep3, X _ _ k3, d3, h3, fun _ => rfl⟩
  have hv : ∀ x v, tv.lookup x = some v → ∃ wv, nsFind es x = some wv ∧ VR σ₀ hT v wv := fun x v hx => by
    have := List.all_eq_true.mp T.vals _ (mem_of_lookup hx)
    dsimp only at this
    rw [hx] at this
    split at this
    · rename_i v' wv e1 e2
      cases e1
      exact ⟨wv, e2, vchk_ok X this⟩
    · cases this
  have hm : ∀ x fv, bval x = some fv → nsFind es x = none := fun x fv h => by
    have := List.all_eq_true.mp T.miss _ (bval_mem h)
    simpa using this
  have hbt : ∀ x fv, bval x = some fv → mb x = some fv := fun x fv h => by
    have := List.all_eq_true.mp boot_bval _ (bval_mem h)
    simp only [Bool.and_eq_true, decide_eq_true_eq] at this
    rw [hbb x this.2, this.1, h]
  intro d
  induction d with
  | zero =>
    refine ⟨⟨_, hg', hv, fun x fv _ _ h => hm x fv h, fun x hx => ?_, trivial⟩, ⟨mb, hb, hbt⟩⟩
    · obtain ⟨f, hf⟩ := Option.isSome_iff_exists.mp hx
      obtain ⟨fa, o, fd, c, oc, vs, t, e1, e2, e3, _⟩ := T.fns _ (fnIn_mem hf)
      exact ⟨fa, o, fd, e1, X _ _ e2, e3, fun args H v H' he => by cases he⟩
  | succ d ih =>
    refine ⟨⟨_, hg', hv, fun x fv _ _ h => hm x fv h, fun x hx => ?_, trivial⟩, ⟨mb, hb, hbt⟩⟩
    · obtain ⟨f, hf⟩ := Option.isSome_iff_exists.mp hx
      obtain ⟨fa, o, fd, c, oc, vs, t, e1, e2, e3, S, e5, e6, e7, e8⟩ := T.fns _ (fnIn_mem hf)
      refine ⟨fa, o, fd, e1, X _ _ e2, e3, ?_⟩
      have key := runFn_ok (f := f) (g := { globs prog (fun x => tv.lookup x) u d with z := zOf x }) ⟨ih.gns, ih.bns⟩ hlim (X _ _ e2) e3 ⟨S.body, S.scope, S.clo, S.glob, S.blt, S.kind, S.gen, S.co, S.bind, fun x hx => List.all_eq_true.mp S.own x hx, fun p hp => by have := List.all_eq_true.mp S.nofree p hp; simpa using this,
        ⟨c, oc, vs, t, e5, X _ _ e6, e7, e8⟩⟩
      intro args H v H' he
      refine key args H v H' ?_
      have he' : ((fnOf prog x).bind fun f => runFn { globs prog (fun x => tv.lookup x) u d with z := zOf x } f args H) = some (v, H') := he
      rw [hf] at he'
      exact he'
end Mine
end

section
set_option autoImplicit false
set_option maxRecDepth 100000
namespace Mine
open PySem PyProof.Rows PySem.W

theorem ints_vrs {σ : List Addr} {h : Heap} : ∀ {vs : List Value} {ns : List Int}, IntsAre vs ns → VRs σ h (ns.map V.int) vs
  | _, _, .nil => .nil
  | _, _, .cons n t r => .cons (.int n t) (ints_vrs r)

/-- the lists that the text's top leaves -/
noncomputable def TopL (K : Frag) (σ₀ : List Addr) (p : List V × Addr) : Prop :=
  ∃ arr n, K.lookup p.2 = some { cls := .type "list", data := .seq arr n } ∧ vchks K σ₀ p.1 arr.toList = true ∧ p.1.length ≤ 1000 ∧ ∃ x r, p.1 = .str x :: r

theorem zip_get {α β : Type} : ∀ {l : List α} {m : List β} {i : Nat} {x : α} {y : β}, l[i]? = some x → m[i]? = some y → (x, y) ∈ l.zip m
  | [], _, i, _, _, h, _ => by simp at h
  | _ :: _, [], i, _, _, _, h => by simp at h
  | a :: l, b :: m, 0, x, y, h1, h2 => by simp at h1 h2; subst h1 h2; simp
  | a :: l, b :: m, i + 1, x, y, h1, h2 => by
    simp at h1 h2
    rw [List.zip_cons_cons]
    exact List.mem_cons_of_mem _ (zip_get h1 h2)

/-- the law's call -/
theorem law_glue {prog : Program} {w : World} {K : Frag} {es : Array DictEntry} {tv : List (Str × V)} {s₁ : Shared} {mg mb : Str → Option Value} {fa a : Addr} {vs : List Value} {ns : List Int} {d : Nat} {H' : Hp} {u : Bool} {Q E : Value → Shared → Prop} {σ₀ : List Addr} {H₀ : Hp}
    (T : TopK prog K es tv σ₀) (hlen0 : σ₀.length = H₀.length) (hnd : σ₀.Nodup) (hobj : ∀ p ∈ H₀.zip σ₀, TopL K σ₀ p)
    (X : K.In s₁.heap) (hg : s₁.heap.Ns mainGlobals mg) (hb : s₁.heap.Ns builtinsNs mb) (hbb : ∀ x : Str, x ≠ "__name__" → mb x = bootBuiltins x) (hlim : s₁.heap.NoLimit) (hfa : mg "law" = some (.ref fa)) (hfn : (fnOf prog "law").isSome = true)
    (hl : s₁.heap.get? a = some { cls := .type "list", data := .seq vs.toArray }) (hI : IntsAre vs ns) (hlen : ns.length ≤ 63) (hd : d ≤ 100)
    (hrun : (globs prog (fun x => tv.lookup x) u d).fn "law" [.ref H₀.length] (H₀ ++ [ns.map V.int]) = some (.bool true, H'))
    (hQ : ∀ h' tk, (∀ b o, s₁.heap.get? b = some o → h'.get? b = some o) → Q (.bool true) { s₁ with heap := h', toks := tk }) : wpAny (model prog w) callerA (call (.ref fa) [.ref a]) Q E s₁ := by
  have B := base_ok_K (w := w) T X hg hb hbb hlim u d
  obtain ⟨o3, ep3, k3, d3⟩ := T.glob
  have hmg : nsFind es "law" = some (.ref fa) := by
    obtain ⟨o, es', ep, h1, h2, h3, h4⟩ := hg
    rw [X _ _ k3] at h1
    cases h1
    rw [d3] at h2
    cases h2
    rw [h4, hfa]
  obtain ⟨mg', hg', _, _, h3, _⟩ := B.gns
  obtain ⟨fa', o, fd, e1, e2, e3, FS⟩ := h3 "law" (by cases d <;> exact hfn)
  have hmg2 : mg' "law" = some (.ref fa) := by
    obtain ⟨o', es', ep, h1, h2, h3, h4⟩ := hg'
    rw [X _ _ k3] at h1
    cases h1
    rw [d3] at h2
    cases h2
    rw [← h4, hmg]
  rw [hmg2] at e1
  cases e1
  have hat : ∀ i xs r, H₀[i]? = some xs → σ₀[i]? = some r → ∃ arr, s₁.heap.PlainList r arr ∧ VRs σ₀ s₁.heap xs arr.toList ∧ xs.length ≤ sizeLine ∧ ∃ x q, xs = .str x :: q := fun i xs r h1 h2 => by
    obtain ⟨arr, n, f1, f2, f3, f4⟩ := hobj _ (zip_get h1 h2)
    exact ⟨arr, ⟨n, X _ _ f1⟩, vchks_ok X f2, Nat.le_trans f3 (by rw [sizeLine_val]; decide), f4⟩
  have hna : a ∉ σ₀ := fun hm => by
    obtain ⟨i, hi, e⟩ := List.getElem_of_mem hm
    have hH : i < H₀.length := by rw [← hlen0]; exact hi
    obtain ⟨arr, ⟨n, p⟩, v, _, x, q, f⟩ := hat i H₀[i] a (by simp [hH]) (by rw [List.getElem?_eq_getElem hi, e])
    rw [hl] at p
    have p2 := congrArg Obj.data (Option.some.inj p)
    have p3 : vs.toArray = arr := by injection p2
    subst p3
    rw [f] at v
    simp only [List.toList_toArray] at v
    cases hI with
    | nil => cases v
    | cons nn tt rr => cases v with | cons v1 v2 => cases v1
  have wr : WR s₁.heap (σ₀ ++ [a]) (H₀ ++ [ns.map V.int]) s₁.heap := by
    refine ⟨by simp [hlen0], fun i xs r h1 h2 => ?_, ?_, fun _ _ e => e⟩
    · by_cases hi : i < H₀.length
      · rw [List.getElem?_append_left hi] at h1
        rw [List.getElem?_append_left (by rw [hlen0]; exact hi)] at h2
        obtain ⟨arr, f1, f2, f3, _⟩ := hat i xs r h1 h2
        exact ⟨arr, f1, f2.mono (List.prefix_append _ _) (Tups.refl _), f3⟩
      · have hi' : i = H₀.length := by
          have := (List.getElem?_eq_some_iff.mp h1).1
          simp at this; omega
        subst hi'
        rw [List.getElem?_append_right (Nat.le_refl _)] at h1
        rw [List.getElem?_append_right (by rw [hlen0]; exact Nat.le_refl _)] at h2
        simp [hlen0] at h1 h2
        subst h1 h2
        refine ⟨vs.toArray, ⟨0, hl⟩, ints_vrs hI, ?_⟩
        rw [List.length_map, sizeLine_val]; omega
    · rw [List.nodup_append]
      refine ⟨hnd, by simp, fun x hx y hy e => ?_⟩
      simp at hy
      subst hy e
      exact hna hx
  refine FS [.ref H₀.length] _ _ _ hrun callerA (σ₀ ++ [a]) s₁ Q E [.ref a] ⟨rfl, ?_, ?_⟩ wr ⟨[a], rfl⟩ (.cons (.ref (by rw [← hlen0]; simp)) .nil) (fun wv h' tk σ' wr' hv ex => ?_) (Nat.zero_le _)
  · show callerA.depth + d < 900
    have : callerA.depth ≤ 500 := by decide
    omega
  · show callerA.units + 10 * d + 300 < cLine
    have : callerA.units ≤ 500 := by decide
    have : cLine = 9900 := rfl
    omega
  · cases hv
    refine hQ h' tk.n fun b o e => ex.keep b o e (by simp) ?_
    rw [List.drop_eq_nil_of_le (by simp [hlen0])]
    simp
end Mine
end

section
set_option autoImplicit false
set_option maxRecDepth 100000
namespace Mine
open PySem PyProof.Rows PySem.W

theorem bind_0 {fd : FuncData} {ps : List Str} (hl : ps.length = 0) (h : bindArgs fd ⟨[], []⟩ = pure (ps.zip [])) : ∀ vals : List Value, vals.length = ps.length → bindArgs fd ⟨vals, []⟩ = pure (ps.zip vals)
  | [], _ => h
  | _ :: _, e => by rw [hl] at e; cases e
theorem bind_1 {fd : FuncData} {ps : List Str} (hl : ps.length = 1) (h : ∀ a, bindArgs fd ⟨[a], []⟩ = pure (ps.zip [a])) : ∀ vals : List Value, vals.length = ps.length → bindArgs fd ⟨vals, []⟩ = pure (ps.zip vals)
  | [a], _ => h a
  | [], e => by rw [hl] at e; cases e
  | _ :: _ :: _, e => by rw [hl] at e; simp at e
theorem bind_2 {fd : FuncData} {ps : List Str} (hl : ps.length = 2) (h : ∀ a b, bindArgs fd ⟨[a, b], []⟩ = pure (ps.zip [a, b])) : ∀ vals : List Value, vals.length = ps.length → bindArgs fd ⟨vals, []⟩ = pure (ps.zip vals)
  | [a, b], _ => h a b
  | [], e => by rw [hl] at e; cases e
  | [_], e => by rw [hl] at e; cases e
  | _ :: _ :: _ :: _, e => by rw [hl] at e; simp at e
theorem bind_3 {fd : FuncData} {ps : List Str} (hl : ps.length = 3) (h : ∀ a b c, bindArgs fd ⟨[a, b, c], []⟩ = pure (ps.zip [a, b, c])) : ∀ vals : List Value, vals.length = ps.length → bindArgs fd ⟨vals, []⟩ = pure (ps.zip vals)
  | [a, b, c], _ => h a b c
  | [], e => by rw [hl] at e; cases e
  | [_], e => by rw [hl] at e; cases e
  | [_, _], e => by rw [hl] at e; cases e
  | _ :: _ :: _ :: _ :: _, e => by rw [hl] at e; simp at e
theorem bind_4 {fd : FuncData} {ps : List Str} (hl : ps.length = 4) (h : ∀ a b c d, bindArgs fd ⟨[a, b, c, d], []⟩ = pure (ps.zip [a, b, c, d])) : ∀ vals : List Value, vals.length = ps.length → bindArgs fd ⟨vals, []⟩ = pure (ps.zip vals)
  | [a, b, c, d], _ => h a b c d
  | [], e => by rw [hl] at e; cases e
  | [_], e => by rw [hl] at e; cases e
  | [_, _], e => by rw [hl] at e; cases e
  | [_, _, _], e => by rw [hl] at e; cases e
  | _ :: _ :: _ :: _ :: _ :: _, e => by rw [hl] at e; simp at e

noncomputable def AllP {α : Type} (P : α → Prop) : List α → Prop
  | [] => True
  | x :: r => P x ∧ AllP P r
theorem AllP.all {α : Type} {P : α → Prop} : ∀ {l : List α}, AllP P l → ∀ p ∈ l, P p
  | _ :: _, h, _, .head _ => h.1
  | _ :: _, h, _, .tail _ m => AllP.all h.2 _ m

noncomputable def esOf (K : Frag) : Array DictEntry := match K.lookup mainGlobals with
  | some o => (match o.data with | .dict es _ => es | _ => #[])
  | none => #[]
end Mine
namespace Mine
open PySem PyProof.Rows PySem.W
theorem plain_of {P : Params} {h : Heap} {a : Addr} {vs : List Value} {xs : List PyData} (hw : Well P h (.ref a) (ofPy (.list xs))) (hL : h.IsList a vs.toArray) : h.get? a = some { cls := .type "list", data := .seq vs.toArray } := by
  have hw' : Well P h (.ref a) (.list (ofPys xs)) := hw
  cases hw' with
  | list h1 h2 =>
    obtain ⟨o, e1, e2, n, e3⟩ := hL
    rw [h1] at e1
    cases e1
    cases e3
    exact h1
theorem good_end {c : ClaimW} {cl : Str → Option Addr} {mean : ExcName → Option Value} {args : List WData} {s₁ : Shared} {h' : Heap} {tk : Nat} (hr : ∀ cls, c.raises args cls = false) (hp : c.post args (.bool true) args = true) (hk : ∀ b o, s₁.heap.get? b = some o → h'.get? b = some o) (hg : s₁.gens = #[]) :
    GoodWG c cl mean args s₁ (.ok (.ret (.bool true))) { s₁ with heap := h', toks := tk } :=
  ⟨.inl ⟨_, _, [], rfl, hr, ReadsW.bool true, hp, fun _ => ⟨List.nodup_nil, fun _ hm => (nomatch hm)⟩⟩, OldK.of_keep hk, rfl, by show AllBare s₁.gens; rw [hg]; exact AllBare.empty⟩
end Mine
end

section
set_option autoImplicit false
set_option maxRecDepth 100000
namespace Mine
open PySem

/-! ### the small reading with what follows handed on: its value on a written text is read off by computation -/
/- a bind under a name of its own: the kernel then unfolds it instead of comparing what follows -/
noncomputable def ob1 {α R : Type} (o : Option α) (k : α → Option R) : Option R := match o with | some v => k v | none => none
noncomputable def ob2 {α R : Type} (o : Option α) (k : α → Option R) : Option R := ob1 o k
noncomputable def ob3 {α R : Type} (o : Option α) (k : α → Option R) : Option R := ob2 o k
noncomputable def ob4 {α R : Type} (o : Option α) (k : α → Option R) : Option R := ob3 o k
noncomputable def ob {α R : Type} (o : Option α) (k : α → Option R) : Option R := ob4 o k
theorem ob_eq {α R : Type} (o : Option α) (k : α → Option R) : ob o k = o.bind k := by cases o <;> rfl
abbrev EvC := (R : Type) → Expr → Kap → Rho → Hp → (V → Hp → Option R) → Option R
abbrev TsC := (R : Type) → Expr → Kap → Rho → Hp → (Bool → Hp → Option R) → Option R

noncomputable def evsC (rec : EvC) (R : Type) (κ : Kap) (ρ : Rho) : List Expr → Hp → (List V → Hp → Option R) → Option R
  | [], h, k => k [] h
  | e :: r, h, k => if notStar e then rec R e κ ρ h fun v h => evsC rec R κ ρ r h fun vs h => k (v :: vs) h else none

noncomputable def evBoolC (rec : EvC) (R : Type) (op : BoolOp) (κ : Kap) (ρ : Rho) : List Expr → Hp → (V → Hp → Option R) → Option R
  | [], _, _ => none
  | [e], h, k => rec R e κ ρ h k
  | e :: r, h, k => rec R e κ ρ h fun v h => (truthV v).bind fun t =>
    match op with
    | .And => if t then evBoolC rec R op κ ρ r h k else k v h
    | .Or => if t then k v h else evBoolC rec R op κ ρ r h k

noncomputable def cmpChainC (rec : EvC) (R : Type) (κ : Kap) (ρ : Rho) : V → List CmpOp → List Expr → Hp → (Bool → Hp → Option R) → Option R
  | x, [op], [e], h, k => if notSet e then rec R e κ ρ h fun y h => (cmpop op x y h).bind fun c => k c h else none
  | _, _, _, _, _ => none

noncomputable def evOptC (rec : EvC) (R : Type) (κ : Kap) (ρ : Rho) : Option Expr → Hp → (V → Hp → Option R) → Option R
  | none, h, k => k .none h
  | some e, h, k => rec R e κ ρ h k

noncomputable def evIterC (g : Glob) (rec : EvC) (R : Type) (κ : Kap) (ρ : Rho) (e : Expr) (h : Hp) (k : List V → Option Nat → Hp → Option R) : Option R :=
  if notSet e then
    match rangeCall e with
    | some (f, args) => if isGlobalB g κ f then evsC rec R κ ρ args h fun vs h => (rangeArgs vs).bind fun r => k (rangeV r.1 r.2) none h else none
    | none => rec R e κ ρ h fun v h => (itemsOf v h).bind fun q => k q.1 q.2 h
  else none

noncomputable def tstsC (recT : TsC) (R : Type) (κ : Kap) (ρ : Rho) : List Expr → Hp → (Bool → Hp → Option R) → Option R
  | [], h, k => k true h
  | e :: r, h, k => recT R e κ ρ h fun t h => if t then tstsC recT R κ ρ r h k else k false h

noncomputable def cgoC (g : Glob) (rec : EvC) (recT : TsC) (ω : Str → Bool) (elt : Expr) (acc : Nat) (κ : Kap) : List Comprehension → Rho → Hp → Option Hp
  | [], ρ, h => rec Hp elt κ ρ h fun v h => appendTo acc v h
  | g1 :: rest, ρ, h =>
    if g1.is_async = 0 ∧ freshT g1.target ρ = true then
    evIterC g rec Hp κ ρ g1.iter h fun items c h => loopL c items (fun x h => ob (bindT ω g1.target x ρ) fun ρ' =>
      tstsC recT Hp κ ρ' g1.ifs h fun t h => if t then cgoC g rec recT ω elt acc κ rest ρ' h else some h) items h
    else none

noncomputable def evCompC (g : Glob) (rec : EvC) (recT : TsC) (R : Type) (elt : Expr) (gens : List Comprehension) (scope : Scope) (κ : Kap) (ρ : Rho) (h : Hp) (k : V → Hp → Option R) : Option R :=
  match gens with
  | [] => none
  | g1 :: rest =>
    if g1.is_async = 0 ∧ freeOk scope κ = true ∧ freshT g1.target (fun y => if ownName scope y then none else ρ y) = true then
    evIterC g rec R κ ρ g1.iter h fun items c h =>
      (loopL c items (fun x h' => ob (bindT (ownName scope) g1.target x (fun y => if ownName scope y then none else ρ y)) fun ρ' =>
        tstsC recT Hp (compKap scope κ) ρ' g1.ifs h' fun t h' => if t then cgoC g rec recT (ownName scope) elt h.length (compKap scope κ) rest ρ' h' else some h')
        items (h ++ [[]])).bind fun h' => k (.ref h.length) h'
    else none

noncomputable def evFC (g : Glob) (b : Nat) (rec : EvC) (recT : TsC) (R : Type) (e : Expr) (κ : Kap) (ρ : Rho) (h : Hp) (k : V → Hp → Option R) : Option R :=
  match e with
  | .Constant c _ _ => ob (cval c) fun v => k v h
  | .Name x _ => ob (nameV g κ ρ x) fun v => k v h
  | .BoolOp op vs _ => evBoolC rec R op κ ρ vs h k
  | .BinOp l op r _ => rec R l κ ρ h fun x h => rec R r κ ρ h fun y h => (binop op x y h).bind fun p => k p.1 p.2
  | .UnaryOp op x _ => rec R x κ ρ h fun v h => (unop op v).bind fun u => k u h
  | .Compare l ops cs _ => rec R l κ ρ h fun x h => cmpChainC rec R κ ρ x ops cs h fun t h => k (.bool t) h
  | .Call f args kws pos => match kws with
    | [] => (match f with
      | .Attribute o m ap => if okBase o ∧ ap.endLine = pos.line ∧ args.length < 30 then
          rec R o κ ρ h fun x h => if m = "replace" then (if g.z = 1 then (repl x args h).bind fun p => k p.1 p.2 else none) else evsC rec R κ ρ args h fun vs h => (callM b m x vs h).bind fun p => k p.1 p.2 else none
      | .Name f _ => if κ f = some .globalImplicit ∧ f ≠ "__debug__" ∧ args.length < 30 then
          (if g.isFn f then (if g.val f = none ∧ tokOk g.z f args = true then evsC rec R κ ρ args h fun vs h => (g.fn f vs h).bind fun p => k p.1 p.2 else none)
          else if isGlobalB g κ f then evsC rec R κ ρ args h fun vs h => (callB f vs h).bind fun p => k p.1 p.2 else none) else none
      | _ => none)
    | _ => none
  | .Subscript v i _ => (match sliceOf i with
    | some y => rec R v κ ρ h fun x h => evOptC rec R κ ρ y.1 h fun a h => evOptC rec R κ ρ y.2.1 h fun c h => evOptC rec R κ ρ y.2.2 h fun d h => (slice x a c d h).bind fun p => k p.1 p.2
    | none => rec R v κ ρ h fun x h => rec R i κ ρ h fun y h => (idx x y h).bind fun v => k v h)
  | .List es _ => evsC rec R κ ρ es h fun vs h => if vs.length ≤ sizeLine then k (.ref h.length) (h ++ [vs]) else none
  | .Tuple es _ _ => evsC rec R κ ρ es h fun vs h => if vs.length ≤ sizeLine then k (.tup vs) h else none
  | .ListComp elt gens scope _ => evCompC g rec recT R elt gens scope κ ρ h k
  | _ => none

noncomputable def tstAllC (recT : TsC) (R : Type) (op : BoolOp) (κ : Kap) (ρ : Rho) : List Expr → Hp → (Bool → Hp → Option R) → Option R
  | [], h, k => k (op == .And) h
  | e :: r, h, k => recT R e κ ρ h fun t h =>
    match op with
    | .And => if t then tstAllC recT R op κ ρ r h k else k false h
    | .Or => if t then k true h else tstAllC recT R op κ ρ r h k

noncomputable def tstFC (rec : EvC) (recT : TsC) (R : Type) (e : Expr) (κ : Kap) (ρ : Rho) (h : Hp) (k : Bool → Hp → Option R) : Option R :=
  match e with
  | .UnaryOp op x _ => if isNotOp op then recT R x κ ρ h fun t h => k (!t) h else none
  | .BoolOp op vs _ => tstAllC recT R op κ ρ vs h k
  | .Compare l ops cs _ => rec R l κ ρ h fun x h => cmpChainC rec R κ ρ x ops cs h k
  | .IfExp .. => none
  | e => rec R e κ ρ h fun v h => (truthV v).bind fun t => k t h

noncomputable def evTC (g : Glob) (b : Nat) : Nat → EvC × TsC
  | 0 => (fun _ _ _ _ _ _ => none, fun _ _ _ _ _ _ => none)
  | n + 1 => (evFC g b (evTC g b n).1 (evTC g b n).2, tstFC (evTC g b n).1 (evTC g b n).2)

abbrev ExC := (R : Type) → Stmt → Rho → Hp → (Fl → Rho → Hp → Option R) → Option R
noncomputable def exsC (rec : ExC) (R : Type) : List Stmt → Rho → Hp → (Fl → Rho → Hp → Option R) → Option R
  | [], ρ, h, k => k .next ρ h
  | s :: r, ρ, h, k => rec R s ρ h fun f ρ h => match f with
    | .next => exsC rec R r ρ h k
    | f => k f ρ h

noncomputable def exFC (g : Glob) (b : Nat) (ω : Str → Bool) (κ : Kap) (rec : EvC) (recT : TsC) (recS : ExC) (R : Type) (st : Stmt) (ρ : Rho) (h : Hp) (k : Fl → Rho → Hp → Option R) : Option R :=
  match st with
  | .Expr e _ => if notComp e then rec R e κ ρ h fun v h => if isNoneV v then k .next ρ h else none else none
  | .Break _ => k .brk ρ h
  | .Continue _ => k .cont ρ h
  | .Return (some e) _ => rec R e κ ρ h fun v h => k (.ret v) ρ h
  | .Assign ts e _ => (match ts with
    | [.Name x _] => if ω x then rec R e κ ρ h fun v h => k .next (upd ρ x v) h else none
    | _ => none)
  | .If t body orelse _ => recT R t κ ρ h fun c h => if c then exsC recS R body ρ h k else exsC recS R orelse ρ h k
  | .For t it body orelse _ => match orelse with
    | [] => evIterC g rec R κ ρ it h fun items c h => (loopS c items (fun x ρ h => ob (bindT ω t x ρ) fun ρ' => exsC recS (Fl × Rho × Hp) body ρ' h fun f ρ h => some (f, ρ, h)) items ρ h).bind fun q => k q.1 q.2.1 q.2.2
    | _ => none
  | _ => none

noncomputable def exTC (g : Glob) (b : Nat) (ω : Str → Bool) (κ : Kap) : Nat → ExC
  | 0 => fun _ _ _ _ _ => none
  | n + 1 => exFC g b ω κ (evTC g b n).1 (evTC g b n).2 (exTC g b ω κ n)

noncomputable def runFnC (g : Glob) (f : FnD) (args : List V) (h : Hp) : Option (V × Hp) :=
  if args.length = f.params.length then
    exsC (exTC g h.length (fun x => ownName f.scope x) (fun x => f.scope.names.lookup x) fuel) (V × Hp) f.body (fun x => (f.params.zip args).reverse.lookup x) h fun fl _ h => match fl with
      | .ret v => some (v, h)
      | .next => some (.none, h)
      | _ => none
  else none

/-! the two readings agree -/
noncomputable def RC (rec : Rec) (recC : EvC) : Prop := ∀ R e κ ρ h k, recC R e κ ρ h k = (rec e κ ρ h).bind fun p => k p.1 p.2
noncomputable def TC (rec : RecT) (recC : TsC) : Prop := ∀ R e κ ρ h k, recC R e κ ρ h k = (rec e κ ρ h).bind fun p => k p.1 p.2

section
variable {g : Glob} {b : Nat} {rec : Rec} {recC : EvC} {recT : RecT} {recTC : TsC} {R : Type} {κ : Kap} {ρ : Rho}

theorem evsC_eq (hr : RC rec recC) : ∀ (es : List Expr) (h : Hp) (k : List V → Hp → Option R), evsC recC R κ ρ es h k = (evs rec κ ρ es h).bind fun p => k p.1 p.2
  | [], h, k => rfl
  | e :: r, h, k => by
    unfold evsC evs
    split
    · rw [hr, Option.bind_assoc]
      congr 1
      funext p
      rw [evsC_eq hr r]
      cases evs rec κ ρ r p.2 <;> rfl
    · rfl

theorem evBoolC_eq (hr : RC rec recC) {op : BoolOp} : ∀ (es : List Expr) (h : Hp) (k : V → Hp → Option R), evBoolC recC R op κ ρ es h k = (evBool rec op κ ρ es h).bind fun p => k p.1 p.2
  | [], h, k => rfl
  | [e], h, k => hr ..
  | e :: e' :: r, h, k => by
    unfold evBoolC evBool
    rw [hr, Option.bind_assoc]
    congr 1
    funext p
    cases truthV p.1 with
    | none => rfl
    | some t =>
      simp only [Option.bind_some]
      cases op <;> cases t <;> simp only [if_true, if_false, Bool.false_eq_true] <;> first | rfl | exact evBoolC_eq hr (e' :: r) p.2 k

theorem cmpChainC_eq (hr : RC rec recC) : ∀ (ops : List CmpOp) (x : V) (es : List Expr) (h : Hp) (k : Bool → Hp → Option R), cmpChainC recC R κ ρ x ops es h k = (cmpChain rec κ ρ x ops es h).bind fun p => k p.1 p.2
  | [], x, es, h, k => by cases es <;> rfl
  | [op], x, [], h, k => rfl
  | op :: o2 :: ops, x, [], h, k => rfl
  | [op], x, [e], h, k => by
    dsimp only [cmpChainC, cmpChain]
    split
    · rw [hr, Option.bind_assoc]
      congr 1
      funext p
      cases cmpop op x p.1 p.2 <;> rfl
    · rfl
  | [op], x, e :: e2 :: es, h, k => rfl
  | op :: o2 :: ops, x, e :: es, h, k => rfl

theorem evOptC_eq (hr : RC rec recC) (e : Option Expr) (h : Hp) (k : V → Hp → Option R) : evOptC recC R κ ρ e h k = (evOpt rec κ ρ e h).bind fun p => k p.1 p.2 := by
  cases e with
  | none => rfl
  | some e => exact hr ..

theorem evIterC_eq (hr : RC rec recC) (e : Expr) (h : Hp) (k : List V → Option Nat → Hp → Option R) : evIterC g recC R κ ρ e h k = (evIter g rec κ ρ e h).bind fun q => k q.1.1 q.1.2 q.2 := by
  unfold evIterC evIter
  split
  · cases rangeCall e with
    | some fa =>
      obtain ⟨f, args⟩ := fa
      simp only
      split
      · rw [evsC_eq hr, Option.bind_assoc]
        congr 1
        funext p
        cases rangeArgs p.1 <;> rfl
      · rfl
    | none =>
      simp only
      rw [hr, Option.bind_assoc]
      congr 1
      funext p
      cases itemsOf p.1 p.2 <;> rfl
  · rfl

theorem tstsC_eq (ht : TC recT recTC) : ∀ (es : List Expr) (ρ : Rho) (h : Hp) (k : Bool → Hp → Option R), tstsC recTC R κ ρ es h k = (tsts recT κ ρ es h).bind fun p => k p.1 p.2
  | [], ρ, h, k => rfl
  | e :: r, ρ, h, k => by
    unfold tstsC tsts
    rw [ht, Option.bind_assoc]
    congr 1
    funext p
    cases p.1
    · rfl
    · simp only [if_true]; exact tstsC_eq ht r ρ p.2 k

theorem cgoC_eq (hr : RC rec recC) (ht : TC recT recTC) {ω : Str → Bool} {elt : Expr} {acc : Nat} : ∀ (gens : List Comprehension) (ρ : Rho) (h : Hp), cgoC g recC recTC ω elt acc κ gens ρ h = cgo g rec recT ω elt acc κ gens ρ h
  | [], ρ, h => by unfold cgoC cgo; rw [hr]
  | g1 :: rest, ρ, h => by
    unfold cgoC cgo
    split
    · rw [evIterC_eq hr]
      congr 1
      funext q
      congr 1
      funext x h
      rw [ob_eq]
      congr 1
      funext ρ'
      rw [tstsC_eq ht]
      congr 1
      funext p
      split
      · exact cgoC_eq hr ht rest ρ' p.2
      · rfl
    · rfl

theorem evCompC_eq (hr : RC rec recC) (ht : TC recT recTC) (elt : Expr) (gens : List Comprehension) (scope : Scope) (h : Hp) (k : V → Hp → Option R) : evCompC g recC recTC R elt gens scope κ ρ h k = (evComp g rec recT elt gens scope κ ρ h).bind fun p => k p.1 p.2 := by
  cases gens with
  | nil => rfl
  | cons g1 rest =>
    unfold evCompC evComp
    simp only
    split
    · rw [evIterC_eq hr, Option.bind_assoc]
      congr 1
      funext q
      rw [Option.bind_map]
      have e : (fun x h' => ob (bindT (ownName scope) g1.target x (fun y => if ownName scope y then none else ρ y)) fun ρ' =>
        tstsC recTC Hp (compKap scope κ) ρ' g1.ifs h' fun t h' => if t then cgoC g recC recTC (ownName scope) elt q.2.length (compKap scope κ) rest ρ' h' else some h') = (fun x h' => (bindT (ownName scope) g1.target x (fun y => if ownName scope y then none else ρ y)).bind fun ρ' =>
        (tsts recT (compKap scope κ) ρ' g1.ifs h').bind fun p => if p.1 then cgo g rec recT (ownName scope) elt q.2.length (compKap scope κ) rest ρ' p.2 else some p.2) := by
        funext x h'
        rw [ob_eq]
        congr 1
        funext ρ'
        rw [tstsC_eq ht]
        congr 1
        funext p
        split
        · exact cgoC_eq hr ht _ ρ' p.2
        · rfl
      rw [e]
      rfl
    · rfl

theorem evFC_eq (hr : RC rec recC) (ht : TC recT recTC) : RC (evF g b rec recT) (evFC g b recC recTC) := by
  intro R e κ ρ h k
  cases e
  case Constant c _ _ => dsimp only [evFC, evF]; cases cval c <;> rfl
  case Name x _ => dsimp only [evFC, evF]; cases nameV g κ ρ x <;> rfl
  case BoolOp => exact evBoolC_eq hr ..
  case BinOp l op r _ =>
    dsimp only [evFC, evF]
    rw [hr, Option.bind_assoc]; congr 1; funext p; rw [hr, Option.bind_assoc]
  case UnaryOp op x _ =>
    dsimp only [evFC, evF]
    rw [hr, Option.bind_assoc]; congr 1; funext p; cases unop op p.1 <;> rfl
  case Compare l ops cs _ =>
    dsimp only [evFC, evF]
    rw [hr, Option.bind_assoc]; congr 1; funext p; rw [cmpChainC_eq hr, Option.bind_map]; rfl
  case Call f args kws pos =>
    cases kws
    case cons => rfl
    case nil =>
    cases f
    case Attribute o m ap =>
      dsimp only [evFC, evF]
      split
      · rw [hr, Option.bind_assoc]; congr 1; funext p
        by_cases hm : m = "replace"
        · rw [if_pos hm, if_pos hm]; split <;> rfl
        · rw [if_neg hm, if_neg hm, evsC_eq hr, Option.bind_assoc]
      · rfl
    case Name f _ =>
      dsimp only [evFC, evF]
      split
      · split
        · split
          · rw [evsC_eq hr, Option.bind_assoc]
          · rfl
        · split
          · rw [evsC_eq hr, Option.bind_assoc]
          · rfl
      · rfl
    all_goals rfl
  case Subscript v i _ =>
    dsimp only [evFC, evF]
    cases sliceOf i with
    | some y =>
      simp only
      rw [hr, Option.bind_assoc]; congr 1; funext p; rw [evOptC_eq hr, Option.bind_assoc]; congr 1; funext p; rw [evOptC_eq hr, Option.bind_assoc]; congr 1; funext p; rw [evOptC_eq hr, Option.bind_assoc]
    | none =>
      simp only
      rw [hr, Option.bind_assoc]; congr 1; funext p; rw [hr, Option.bind_assoc]; congr 1; funext q; rw [Option.bind_map]; rfl
  case List es _ =>
    dsimp only [evFC, evF]
    rw [evsC_eq hr, Option.bind_assoc]; congr 1; funext p; split <;> rfl
  case Tuple es _ _ =>
    dsimp only [evFC, evF]
    rw [evsC_eq hr, Option.bind_assoc]; congr 1; funext p; split <;> rfl
  case ListComp => exact evCompC_eq hr ht ..
  all_goals rfl

theorem tstAllC_eq (ht : TC recT recTC) {op : BoolOp} : ∀ (es : List Expr) (h : Hp) (k : Bool → Hp → Option R), tstAllC recTC R op κ ρ es h k = (tstAll recT op κ ρ es h).bind fun p => k p.1 p.2
  | [], h, k => rfl
  | e :: r, h, k => by
    unfold tstAllC tstAll
    rw [ht, Option.bind_assoc]
    congr 1
    funext p
    obtain ⟨t, h'⟩ := p
    cases op <;> cases t <;> simp only [if_true, if_false, Bool.false_eq_true] <;> first | rfl | exact tstAllC_eq ht r h' k

theorem tstFC_eq (hr : RC rec recC) (ht : TC recT recTC) : TC (tstF rec recT) (tstFC recC recTC) := by
  intro R e κ ρ h k
  cases e
  case UnaryOp op x _ =>
    dsimp only [tstFC, tstF]
    split
    · rw [ht, Option.bind_map]; rfl
    · rfl
  case BoolOp => exact tstAllC_eq ht ..
  case Compare =>
    dsimp only [tstFC, tstF]
    rw [hr, Option.bind_assoc]; congr 1; funext p; rw [cmpChainC_eq hr]
  case IfExp => rfl
  all_goals
    dsimp only [tstFC, tstF]
    rw [hr, Option.bind_assoc]; congr 1; funext p; cases truthV p.1 <;> rfl

theorem evTC_eq : ∀ n, RC (evT g b n).1 (evTC g b n).1 ∧ TC (evT g b n).2 (evTC g b n).2
  | 0 => ⟨fun _ _ _ _ _ _ => rfl, fun _ _ _ _ _ _ => rfl⟩
  | n + 1 => ⟨evFC_eq (evTC_eq n).1 (evTC_eq n).2, tstFC_eq (evTC_eq n).1 (evTC_eq n).2⟩

noncomputable def SC' (rec : RecS) (recC : ExC) : Prop := ∀ R st ρ h k, recC R st ρ h k = (rec st ρ h).bind fun q => k q.1 q.2.1 q.2.2
theorem exsC_eq {recS : RecS} {recSC : ExC} (hs : SC' recS recSC) : ∀ (body : List Stmt) (R : Type) (ρ : Rho) (h : Hp) (k : Fl → Rho → Hp → Option R), exsC recSC R body ρ h k = (exs recS body ρ h).bind fun q => k q.1 q.2.1 q.2.2
  | [], R, ρ, h, k => rfl
  | s :: r, R, ρ, h, k => by
    unfold exsC exs
    rw [hs, Option.bind_assoc]
    congr 1
    funext q
    obtain ⟨f, ρ', h'⟩ := q
    cases f
    · exact exsC_eq hs r R ρ' h' k
    · rfl
    · rfl
    · rfl

theorem exFC_eq {ω : Str → Bool} {recS : RecS} {recSC : ExC} (hr : RC rec recC) (ht : TC recT recTC) (hs : SC' recS recSC) : SC' (exF g b ω κ rec recT recS) (exFC g b ω κ recC recTC recSC) := by
  intro R st ρ h k
  cases st
  case Expr e _ =>
    dsimp only [exFC, exF]
    split
    · rw [hr, Option.bind_assoc]; congr 1; funext p; split <;> rfl
    · rfl
  case Return e _ =>
    cases e
    · rfl
    · dsimp only [exFC, exF]
      rw [hr, Option.bind_map]; rfl
  case Assign ts e _ =>
    rcases ts with _ | ⟨t, _ | ⟨t2, ts⟩⟩
    · rfl
    · cases t
      case Name x _ =>
        dsimp only [exFC, exF]
        split
        · rw [hr, Option.bind_map]; rfl
        · rfl
      all_goals rfl
    · cases t <;> rfl
  case If t body orelse _ =>
    dsimp only [exFC, exF]
    rw [ht, Option.bind_assoc]; congr 1; funext p; split <;> exact exsC_eq hs ..
  case For t it body orelse _ =>
    cases orelse
    · dsimp only [exFC, exF]
      rw [evIterC_eq hr, Option.bind_assoc]; congr 1; funext q
      congr 1
      congr 1
      funext x ρ h
      rw [ob_eq]
      congr 1
      funext ρ'
      rw [exsC_eq hs]
      cases exs recS _ ρ' h with
      | none => rfl
      | some q => rfl
    · rfl
  all_goals rfl

theorem exTC_eq {ω : Str → Bool} : ∀ n, SC' (exT g b ω κ n) (exTC g b ω κ n)
  | 0 => fun _ _ _ _ _ => rfl
  | n + 1 => exFC_eq (evTC_eq n).1 (evTC_eq n).2 (exTC_eq n)
end

theorem runFn_eq (g : Glob) (f : FnD) (args : List V) (h : Hp) : runFn g f args h = runFnC g f args h := by
  unfold runFn runFnC
  split
  · rw [exsC_eq (exTC_eq fuel)]
    split
    · rename_i e; rw [e]; rfl
    · rename_i e; rw [e]; rfl
    · rename_i n1 n2
      cases e : exs (exT g (List.length h) (fun x => ownName f.scope x) (fun x => List.lookup x f.scope.names) fuel) f.body (fun x => List.lookup x (f.params.zip args).reverse) h with
      | none => rfl
      | some q =>
        obtain ⟨fl, ρ, h'⟩ := q
        cases fl
        · exact (n2 _ _ e).elim
        · rfl
        · rfl
        · exact (n1 _ _ _ e).elim
  · rfl
end Mine
end

section
set_option autoImplicit false
namespace Mine
open PySem

theorem fn_eq (p : Program) (val : Str → Option V) (u : Bool) (d : Nat) (x : Str) (args : List V) (h : Hp) : (globs p val u (d + 1)).fn x args h = (fnOf p x).bind fun f => runFnC { globs p val u d with z := zOf x } f args h := by
  show ((fnOf p x).bind fun f => runFn { globs p val u d with z := zOf x } f args h) = _
  congr 1
  funext f
  exact runFn_eq ..

noncomputable def dctLk (es : List (Str × V)) (q : V) : Option V := match q with | .str k => es.lookup k | _ => none

noncomputable def b_len : Str := ⟨#[108, 101, 110]⟩
noncomputable def b_ord : Str := ⟨#[111, 114, 100]⟩
noncomputable def b_chr : Str := ⟨#[99, 104, 114]⟩
noncomputable def b_isinstance : Str := ⟨#[105, 115, 105, 110, 115, 116, 97, 110, 99, 101]⟩
noncomputable def b_type : Str := ⟨#[116, 121, 112, 101]⟩
noncomputable def b_sorted : Str := ⟨#[115, 111, 114, 116, 101, 100]⟩
noncomputable def b_any : Str := ⟨#[97, 110, 121]⟩
noncomputable def m_append : Str := ⟨#[97, 112, 112, 101, 110, 100]⟩
noncomputable def m_pop : Str := ⟨#[112, 111, 112]⟩
noncomputable def m_join : Str := ⟨#[106, 111, 105, 110]⟩
noncomputable def m_rfind : Str := ⟨#[114, 102, 105, 110, 100]⟩
noncomputable def m_count : Str := ⟨#[99, 111, 117, 110, 116]⟩
noncomputable def m_replace : Str := ⟨#[114, 101, 112, 108, 97, 99, 101]⟩

noncomputable def bindNs : List Str → List V → Rho → Option Rho
  | [], [], ρ => some ρ
  | x :: r, v :: vs, ρ => bindNs r vs (upd ρ x v)
  | _, _, _ => none
noncomputable def bind2 (a b : Str) (x : V) (ρ : Rho) : Option Rho := match x with | .tup vs => bindNs [a, b] vs ρ | _ => none
theorem bind2_tup (a b : Str) (v w : V) (ρ : Rho) : bind2 a b (.tup [v, w]) ρ = some (upd (upd ρ a v) b w) := rfl
theorem strNe {a b : Str} (h : decide (a = b) = false) : ¬ a = b := of_decide_eq_false h
section
variable (h : Hp) (b : Nat)
theorem callB_len (as : List V) : callB b_len as h = (match as with
    | [.str s] => some (.int s.length, h)
    | [.tup vs] => some (.int vs.length, h)
    | [.ref a] => (h[a]?).map fun xs => (.int xs.length, h)
    | _ => none) := if_pos (by decide)
theorem len_str (s : Str) : callB b_len [.str s] h = some (.int s.length, h) := by rw [callB_len]
theorem len_tup (s : List V) : callB b_len [.tup s] h = some (.int s.length, h) := by rw [callB_len]
theorem len_ref {a : Nat} {xs : List V} (e : h[a]? = some xs) : callB b_len [.ref a] h = some (.int xs.length, h) := by rw [callB_len]; simp only [e, Option.map_some]
theorem callB_chr (as : List V) : callB b_chr as h = (match as with
    | [.int i] => if 0 ≤ i ∧ i < 0x110000 then some (.str ⟨#[i.toNat]⟩, h) else none
    | _ => none) := by unfold callB; rw [if_neg (by decide), if_neg (by decide), if_pos (by decide)]; (try rfl)
theorem chr_int {i : Int} (h0 : 0 ≤ i) (h1 : i < 0x110000) : callB b_chr [.int i] h = some (.str ⟨#[i.toNat]⟩, h) := by rw [callB_chr]; simp only [h0, h1, and_self, if_true]
theorem callB_isinstance (as : List V) : callB b_isinstance as h = (match as with
    | [v, .type t] => if t = "tuple" ∨ t = "str" ∨ t = "bool" then (typeV h v).map fun u => (.bool (u == t), h) else none
    | _ => none) := by unfold callB; rw [if_neg (by decide), if_neg (by decide), if_neg (by decide), if_pos (by decide)]; (try rfl)
theorem join_str (s : Str) (as : List V) : callM b m_join (.str s) as h = (match as with
      | [.ref a] => (h[a]?).bind fun xs => (strsOf xs).bind fun ss => if JoinOk s ss then some (.str (Txt.join s ss), h) else none
      | _ => none) := by
  unfold callM
  simp only
  rw [if_pos (by decide)]; (try rfl)
end

/-! loops -/
theorem loopS_rule {c : Option Nat} {all : List V} {f : V → Rho → Hp → Option (Fl × Rho × Hp)} (I : Nat → Rho → Hp → Prop)
    (hstep : ∀ i x ρ h, all[i]? = some x → I i ρ h → chk c all h = true ∧ ∃ ρ' h', (f x ρ h = some (.next, ρ', h') ∨ f x ρ h = some (.cont, ρ', h')) ∧ I (i + 1) ρ' h')
    (hend : ∀ ρ h, I all.length ρ h → chk c all h = true) {ρ : Rho} {h : Hp} (h0 : I 0 ρ h) :
    ∃ ρ' h', loopS c all f all ρ h = some (.next, ρ', h') ∧ I all.length ρ' h' := by
  suffices H : ∀ (rest : List V) (i : Nat) (ρ : Rho) (h : Hp), all.drop i = rest → I i ρ h → i ≤ all.length → ∃ ρ' h', loopS c all f rest ρ h = some (.next, ρ', h') ∧ I all.length ρ' h' from H all 0 ρ h rfl h0 (Nat.zero_le _)
  intro rest
  induction rest with
  | nil =>
    intro i ρ h hd hi hl
    have : i = all.length := by
      have := congrArg List.length hd
      simp at this
      omega
    subst this
    exact ⟨ρ, h, by simp [loopS, hend _ _ hi], hi⟩
  | cons x rest ih =>
    intro i ρ h hd hi hl
    have hx : all[i]? = some x := by rw [← List.head?_drop, hd]; (try rfl)
    have hr : all.drop (i + 1) = rest := by rw [← List.tail_drop, hd]; (try rfl)
    obtain ⟨hc, ρ', h', hf, hi'⟩ := hstep i x ρ h hx hi
    obtain ⟨ρ2, h2, e2, i2⟩ := ih (i + 1) ρ' h' hr hi' (by
      have := (List.getElem?_eq_some_iff.mp hx).1
      omega)
    refine ⟨ρ2, h2, ?_, i2⟩
    unfold loopS
    rw [if_pos hc]
    rcases hf with hf | hf <;> rw [hf] <;> exact e2
theorem chk_none (items : List V) (h : Hp) : chk none items h = true := rfl
theorem V.beqs_refl_of (xs : List V) : V.beqs xs xs = true := by
  have key : ∀ n : Nat, (∀ v : V, sizeOf v < n → V.beq v v = true) ∧ (∀ vs : List V, sizeOf vs < n → V.beqs vs vs = true) := by
    intro n
    induction n with
    | zero => exact ⟨fun _ h => absurd h (Nat.not_lt_zero _), fun _ h => absurd h (Nat.not_lt_zero _)⟩
    | succ n ih =>
      constructor
      · intro v hv
        cases v <;> simp [V.beq]
        rename_i vs
        exact ih.2 vs (by simp at hv; omega)
      · intro vs hv
        cases vs with
        | nil => simp [V.beqs]
        | cons v vs =>
          simp only [V.beqs, Bool.and_eq_true]
          exact ⟨ih.1 v (by simp at hv; omega), ih.2 vs (by simp at hv; omega)⟩
  exact (key _).2 xs (Nat.lt_succ_self _)
theorem chk_some {a : Nat} {items : List V} {h : Hp} (e : h[a]? = some items) : chk (some a) items h = true := by
  unfold chk; simp only [e]; exact V.beqs_refl_of _

theorem seqIndex_nat {k n : Nat} (h : k < n) : seqIndex? (k : Int) n = some k := by
  unfold seqIndex?
  have h1 : ¬ ((k : Int) < 0) := by omega
  have h2 : (0 : Int) ≤ k := by omega
  have h3 : (k : Int) < n := by omega
  simp [h1, h2, h3]
theorem seqIndex_pos {i : Int} {n : Nat} (h0 : 0 ≤ i) (h : i.toNat < n) : seqIndex? i n = some i.toNat := by
  obtain ⟨k, rfl⟩ := Int.eq_ofNat_of_zero_le h0
  exact seqIndex_nat h
theorem seqIndex_neg {i : Int} {n k : Nat} (h0 : i < 0) (h : i + n = k) (hk : k < n) : seqIndex? i n = some k := by
  unfold seqIndex?
  have h2 : (0 : Int) ≤ i + n := by omega
  have h3 : i + n < n := by omega
  simp only [h0, if_true, h2, h3, decide_true, Bool.and_self]
  congr 1
  omega
theorem idx_ref {h : Hp} {a : Nat} {xs : List V} {i : Int} {v : V} (e : h[a]? = some xs) (h0 : 0 ≤ i) (hv : xs[i.toNat]? = some v) : idx (.ref a) (.int i) h = some v := by
  have hl := (List.getElem?_eq_some_iff.mp hv).1
  simp only [idx, e, Option.bind_some, seqIndex_pos h0 hl, hv]
theorem idx_tup {h : Hp} {xs : List V} {i : Int} {v : V} (h0 : 0 ≤ i) (hv : xs[i.toNat]? = some v) : idx (.tup xs) (.int i) h = some v := by
  have hl := (List.getElem?_eq_some_iff.mp hv).1
  simp only [idx, Option.bind_some, seqIndex_pos h0 hl, hv]
theorem idx_str {h : Hp} {s : Str} {i : Int} {c : Nat} (h0 : 0 ≤ i) (hv : s.cps[i.toNat]? = some c) : idx (.str s) (.int i) h = some (.str ⟨#[c]⟩) := by
  have hl := (Array.getElem?_eq_some_iff.mp hv).1
  have hl' : i.toNat < s.length := hl
  simp only [idx, Option.bind_some, seqIndex_pos h0 hl', hv, Option.map_some]
theorem contains_one (x : Str) (c : Nat) : Txt.contains x ⟨#[c]⟩ = decide (c ∈ x.cps.toList) := StrLaws.found_one x c
theorem fmod_lo (a : Int) {b : Int} (h : 0 < b) : 0 ≤ a.fmod b := Int.fmod_nonneg_of_pos a h
theorem fmod_hi (a : Int) {b : Int} (h : 0 < b) : a.fmod b < b := Int.fmod_lt_of_pos a h

/-- a cell of the script -/
noncomputable def cell (ns : List Int) (k : Nat) : Int := (ns[k]?).getD 0

section
variable (h : Hp) (a b : Int) (s t : Str)
theorem bi_add : binop .Add (.int a) (.int b) h = some (.int (a + b), h) := rfl
theorem bi_sub : binop .Sub (.int a) (.int b) h = some (.int (a - b), h) := rfl
theorem bi_mod {b : Int} (hb : b ≠ 0) : binop .Mod (.int a) (.int b) h = some (.int (a.fmod b), h) := if_neg hb
theorem bi_fdiv {b : Int} (hb : b ≠ 0) (hc : b.natAbs < 1073741824) : binop .FloorDiv (.int a) (.int b) h = some (.int (a.fdiv b), h) := if_pos ⟨hb, hc⟩
theorem bl_add {x y : Nat} {xs ys : List V} (e1 : h[x]? = some xs) (e2 : h[y]? = some ys) (hl : xs.length + ys.length ≤ sizeLine) : binop .Add (.ref x) (.ref y) h = some (.ref h.length, h ++ [xs ++ ys]) := by
  simp only [binop, e1, e2, Option.bind_some, hl, if_true]
theorem ci_eq : cmpop .Eq (.int a) (.int b) h = some (a == b) := rfl
theorem ci_ne : cmpop .NotEq (.int a) (.int b) h = some (!(a == b)) := rfl
theorem cs_eq : cmpop .Eq (.str s) (.str t) h = some (s == t) := rfl
theorem cs_ne : cmpop .NotEq (.str s) (.str t) h = some (!(s == t)) := rfl
theorem cb_eq (x y : Bool) : cmpop .Eq (.bool x) (.bool y) h = some (x == y) := rfl
theorem cb_ne (x y : Bool) : cmpop .NotEq (.bool x) (.bool y) h = some (!(x == y)) := rfl
theorem ci_lt : cmpop .Lt (.int a) (.int b) h = some (decide (a < b)) := rfl
theorem ci_le : cmpop .LtE (.int a) (.int b) h = some (decide (a ≤ b)) := rfl
theorem ci_gt : cmpop .Gt (.int a) (.int b) h = some (decide (b < a)) := rfl
theorem ci_ge : cmpop .GtE (.int a) (.int b) h = some (decide (b ≤ a)) := rfl
theorem cb_is (x y : Bool) : cmpop .Is (.bool x) (.bool y) h = some (x == y) := rfl
theorem cb_isNot (x y : Bool) : cmpop .IsNot (.bool x) (.bool y) h = some (x != y) := rfl
theorem ct_is (x y : String) : cmpop .Is (.type x) (.type y) h = some (x == y) := rfl
theorem ct_isNot (x y : String) : cmpop .IsNot (.type x) (.type y) h = some (x != y) := rfl
theorem cs_in : cmpop .In (.str s) (.str t) h = some (Txt.contains t s) := rfl
theorem cs_notin : cmpop .NotIn (.str s) (.str t) h = some (!(Txt.contains t s)) := rfl
theorem truth_bool (x : Bool) : truthV (.bool x) = some x := rfl
theorem rA1 {n : Int} (h : n.natAbs ≤ 2 ^ 40) : rangeArgs [.int n] = some (0, n) := if_pos h
theorem rA2 {m n : Int} (h : m.natAbs ≤ 2 ^ 40) (h2 : n.natAbs ≤ 2 ^ 40) : rangeArgs [.int m, .int n] = some (m, n) := if_pos ⟨h, h2⟩
end
/-- the rules that carry a run on -/
theorem two_le {d : Nat} : d + 1 + 1 = d + 2 := rfl
noncomputable def isT : Option (V × Hp) → Bool
  | some (.bool true, _) => true
  | _ => false
theorem isT_of {r : Option (V × Hp)} (h : isT r = true) : ∃ H', r = some (.bool true, H') := by
  unfold isT at h
  split at h
  · exact ⟨_, rfl⟩
  · cases h
end Mine
end

section
set_option autoImplicit false
namespace Mine
open PySem

theorem get_last (H : Hp) (xs : List V) : (H ++ [xs])[H.length]? = some xs := by simp
theorem get_pre {H : Hp} {a : Nat} {ys : List V} (L : Hp) (e : H[a]? = some ys) : (H ++ L)[a]? = some ys := by
  have := (List.getElem?_eq_some_iff.mp e).1
  rw [List.getElem?_append_left this, e]
theorem set_last (H : Hp) (xs ys : List V) : (H ++ [xs]).set H.length ys = H ++ [ys] := by
  induction H with
  | nil => rfl
  | cons x H ih => exact congrArg (x :: ·) ih

theorem usub_int (a : Int) : unop .USub (.int a) = some (.int (-a)) := rfl

/-! equal lists -/
theorem rdAll_isSome {f : V → Option PyData} : ∀ {xs : List V}, (∀ v ∈ xs, (f v).isSome = true) → ∃ ds, rdAll f xs = some ds
  | [], _ => ⟨[], rfl⟩
  | v :: xs, h => by
    obtain ⟨d, hd⟩ := Option.isSome_iff_exists.mp (h v (List.mem_cons_self ..))
    obtain ⟨ds, hds⟩ := rdAll_isSome (xs := xs) fun w hw => h w (List.mem_cons_of_mem _ hw)
    exact ⟨d :: ds, by simp only [rdAll, hd, hds, Option.bind_some, Option.map_some]⟩
theorem eqV_same {h : Hp} {a a' : Nat} {xs : List V} (e : h[a]? = some xs) (e' : h[a']? = some xs) (hx : ∀ v ∈ xs, (rd 7 h v).isSome = true) : eqV h (.ref a) (.ref a') = some true := by
  obtain ⟨ds, hds⟩ := rdAll_isSome hx
  have r1 : rd 8 h (.ref a) = some (.list ds) := by simp only [rd, e, Option.bind_some, hds, Option.map_some]
  have r2 : rd 8 h (.ref a') = some (.list ds) := by simp only [rd, e', Option.bind_some, hds, Option.map_some]
  show ((rd 8 h (.ref a)).bind fun d => (rd 8 h (.ref a')).map fun e => PyData.eqv d e) = _
  rw [r1, r2]
  simp only [Option.bind_some, Option.map_some]
  rw [PySem.SeqAt.eqv_refl _ (rd_can (H := h) 8 _ _ r1).1]
theorem cl_ne {h : Hp} {a a' : Nat} {xs : List V} (e : h[a]? = some xs) (e' : h[a']? = some xs) (hx : ∀ v ∈ xs, (rd 7 h v).isSome = true) : cmpop .NotEq (.ref a) (.ref a') h = some false := by
  show (eqV h (.ref a) (.ref a')).map _ = _
  rw [eqV_same e e' hx]; rfl
theorem rd_str {n : Nat} {h : Hp} {s : Str} (hs : s.cps.all (· < 0x110000) = true) : (rd n h (.str s)).isSome = true := by
  cases n <;> simp only [rd, hs, if_true, Option.isSome_some]
theorem rd_tup2 {n : Nat} {h : Hp} {s t : Str} (hs : s.cps.all (· < 0x110000) = true) (ht : t.cps.all (· < 0x110000) = true) : (rd (n + 1) h (.tup [.str s, .str t])).isSome = true := by
  obtain ⟨a, ha⟩ := Option.isSome_iff_exists.mp (rd_str (n := n) (h := h) hs)
  obtain ⟨b, hb⟩ := Option.isSome_iff_exists.mp (rd_str (n := n) (h := h) ht)
  simp only [rd, rdAll, ha, hb, Option.bind_some, Option.map_some, Option.isSome_some]
/-! texts as lists of signs -/
noncomputable def S (l : List Nat) : Str := ⟨l.toArray⟩
theorem S_app (l m : List Nat) : S l ++ S m = S (l ++ m) := by
  show (⟨l.toArray ++ m.toArray⟩ : Str) = ⟨(l ++ m).toArray⟩
  simp
theorem S_len (l : List Nat) : (S l).length = l.length := by simp [S, Str.length]
theorem S_list (l : List Nat) : (S l).cps.toList = l := rfl
theorem range_at {lo : Int} {n i : Nat} (h : i < n) : (rangeV lo (lo + n))[i]? = some (.int (lo + i)) := by
  have : (lo + (n : Int) - lo).toNat = n := by omega
  simp [rangeV, this, h]
theorem range_len (lo : Int) (n : Nat) : (rangeV lo (lo + n)).length = n := by
  have : (lo + (n : Int) - lo).toNat = n := by omega
  simp [rangeV, this]
end Mine
end

section
set_option autoImplicit false
namespace Mine
open PySem
theorem appendTo_last {h : Hp} {xs : List V} (v : V) (hl : xs.length ≤ 1000000) : appendTo h.length v (h ++ [xs]) = some (h ++ [xs ++ [v]]) := by
  unfold appendTo
  rw [get_last]
  simp only [Option.bind_some, hl, if_true, set_last]
end Mine
end

section
namespace Mine
open PySem Builtin Builtin.Str

/-- the replacing of one text by another, as a walk over the signs -/
noncomputable def rpl (p z : List Nat) : Nat → List Nat → List Nat
  | _, [] => []
  | k+1, _ :: t => rpl p z k t
  | 0, c :: t => if p.isPrefixOf (c :: t) then z ++ rpl p z (p.length - 1) t else c :: rpl p z 0 t

noncomputable def occL (p : List Nat) : Nat → Nat → List Nat → List Nat
  | _, _, [] => []
  | k+1, i, _ :: t => occL p k (i+1) t
  | 0, i, c :: t => if p.isPrefixOf (c :: t) then i :: occL p (p.length - 1) (i+1) t else occL p 0 (i+1) t

theorem subAt_drop (x y : Str) (i : Nat) (_hi : i + y.length ≤ x.length) :
    subAt x y i = y.cps.toList.isPrefixOf (x.cps.toList.drop i) := by
  unfold subAt
  rw [Bool.eq_iff_iff]
  simp only [beq_iff_eq, List.isPrefixOf_iff_prefix]
  rw [← Array.toList_inj, Array.toList_extract, List.extract_eq_take_drop]
  rw [List.prefix_iff_eq_take]
  have : i + y.length - i = y.cps.toList.length := by simp [Str.length]
  rw [this]
  exact ⟨fun h => h.symm, fun h => h.symm⟩

theorem occ_loop (x y : Str) (hy : 0 < y.length) : ∀ (l : List Nat) (i k : Nat) (found : Array Nat) (free : Nat),
    x.cps.toList.drop i = l → i + l.length = x.length → found.size ≤ i → (free = i + k ∨ (k = 0 ∧ free ≤ i)) →
    (forIn (List.range' i (l.length + 1)) (found, free) (StrLaws.occBody x y x.length (x.length + 1))).run.fst.toList
      = found.toList ++ occL y.cps.toList k i l
  | [], i, k, found, free, hl, hn, hf, hk => by
    have hnot : ¬ (i + y.length ≤ x.length) := by simp at hn; omega
    simp only [List.length_nil, Nat.zero_add, List.range'_one, List.forIn_cons, List.forIn_nil]
    unfold StrLaws.occBody
    split
    · rename_i hc; exact absurd hc.1.2 hnot
    · simp [occL]
  | c :: t, i, k, found, free, hl, hn, hf, hk => by
    have ht : x.cps.toList.drop (i+1) = t := by rw [← List.drop_drop, hl]; rfl
    have hn' : (i+1) + t.length = x.length := by simp at hn; omega
    rw [show (c :: t).length + 1 = (t.length + 1) + 1 from rfl, List.range'_succ, List.forIn_cons]
    unfold StrLaws.occBody
    cases k with
    | succ k =>
      have hfr : ¬ (free ≤ i) := by omega
      split
      · rename_i hc; exact absurd hc.1.1.2 hfr
      · have := occ_loop x y hy t (i+1) k found free ht hn' (by omega) (by omega)
        simp only [occL]
        exact this
    | zero =>
      have hfr : free ≤ i := by omega
      split
      · rename_i hc
        have hpre : y.cps.toList.isPrefixOf (c :: t) = true := by rw [← hl, ← subAt_drop x y i hc.1.2]; exact hc.2
        have := occ_loop x y hy t (i+1) (y.cps.toList.length - 1) (found.push i) (i + y.length) ht hn' (by simp; omega)
          (by left; have : y.length = y.cps.toList.length := by simp [Str.length]
              omega)
        simp only [occL, hpre, if_true]
        refine Eq.trans this ?_
        simp
      · rename_i hc
        have hpre : y.cps.toList.isPrefixOf (c :: t) = false := by
          cases hb : y.cps.toList.isPrefixOf (c :: t) with
          | false => rfl
          | true =>
            exfalso; apply hc
            have hle : i + y.length ≤ x.length := by
              have := (List.isPrefixOf_iff_prefix.mp hb).length_le
              have h2 : y.length = y.cps.toList.length := by simp [Str.length]
              omega
            refine ⟨⟨⟨by show found.size < _; omega, hfr⟩, hle⟩, ?_⟩
            rw [subAt_drop x y i hle, hl]; exact hb
        have := occ_loop x y hy t (i+1) 0 found free ht hn' (by omega) (by omega)
        simp only [occL, hpre, Bool.false_eq_true, if_false]
        exact this

theorem occ_list (x y : Str) (hy : 0 < y.length) :
    occurrences x y 0 x.length (x.length + 1) = occL y.cps.toList 0 0 x.cps.toList := by
  rw [StrLaws.occ_eq]
  have := occ_loop x y hy x.cps.toList 0 0 #[] 0 rfl (by simp [Str.length]) (by simp) (by simp)
  have e : x.cps.toList.length = x.length := by simp [Str.length]
  rw [e] at this
  simpa using this

/-- the parts between the cuts, glued -/
noncomputable def flat (xs z : List Nat) (m : Nat) : Nat → List Nat → List Nat
  | st, [] => (xs.drop st).take (xs.length - st)
  | st, c :: cs => (xs.drop st).take (c - st) ++ (z ++ flat xs z m (c + m) cs)

theorem foldl_app (z : Str) : ∀ (ps : List Str) (acc : Array Nat),
    (ps.foldl (fun acc p => acc ++ z.cps ++ p.cps) acc).toList = acc.toList ++ (ps.map (fun p => z.cps.toList ++ p.cps.toList)).flatten
  | [], acc => by simp
  | p :: ps, acc => by rw [List.foldl_cons, foldl_app z ps]; simp

theorem parts_flat (x z : Str) (m : Nat) : ∀ (cs : List Nat) (st : Nat),
    ((((st :: cs.map (· + m)).zip (cs ++ [x.length])).map (fun (i, j) => strSub x i j)).headD Str.empty).cps.toList
     ++ (((((st :: cs.map (· + m)).zip (cs ++ [x.length])).map (fun (i, j) => strSub x i j)).drop 1).map (fun p => z.cps.toList ++ p.cps.toList)).flatten
    = flat x.cps.toList z.cps.toList m st cs
  | [], st => by
    simp [flat, strSub, List.extract_eq_take_drop, Str.length]
  | c :: cs, st => by
    have := parts_flat x z m cs (c + m)
    simp only [flat]
    rw [← this]
    simp [strSub, List.extract_eq_take_drop, Str.length]
    cases cs <;> simp

theorem glued_flat (x z : Str) (cs : List Nat) (m : Nat) :
    (glued z (partsBetween x cs m)).cps.toList = flat x.cps.toList z.cps.toList m 0 cs := by
  unfold glued partsBetween
  simp only
  rw [foldl_app, ← parts_flat]

theorem flat_occ (xs p z : List Nat) (hp : 0 < p.length) : ∀ (l : List Nat) (i k st : Nat), xs.drop i = l → i + l.length = xs.length →
    (st = i + k ∨ (k = 0 ∧ st ≤ i)) →
    flat xs z p.length st (occL p k i l) = (xs.drop st).take (i - st) ++ rpl p z k l
  | [], i, k, st, hl, hn, hk => by
    simp only [occL, flat, rpl, List.append_nil]
    have : xs.length = i := by simp at hn; omega
    rw [this]
  | c :: t, i, k, st, hl, hn, hk => by
    have ht : xs.drop (i+1) = t := by rw [← List.drop_drop, hl]; rfl
    have hn' : (i+1) + t.length = xs.length := by simp at hn; omega
    cases k with
    | succ k =>
      have h := flat_occ xs p z hp t (i+1) k st ht hn' (by omega)
      have e1 : i - st = 0 := by omega
      have e2 : i + 1 - st = 0 := by omega
      simp only [occL, rpl]
      rw [h, e1, e2]
    | zero =>
      simp only [occL, rpl]
      split
      · have h := flat_occ xs p z hp t (i+1) (p.length - 1) (i + p.length) ht hn' (by omega)
        simp only [flat]
        rw [h]
        have : i + 1 - (i + p.length) = 0 := by omega
        rw [this]; try simp
      · have h := flat_occ xs p z hp t (i+1) 0 st ht hn' (by omega)
        rw [h]
        have e : i + 1 - st = (i - st) + 1 := by omega
        rw [e, List.take_add_one]
        have : (xs.drop st)[i - st]? = some c := by
          rw [List.getElem?_drop]
          have e3 : st + (i - st) = i := by omega
          rw [e3]
          have := congrArg (fun l => l[0]?) hl
          simpa using this
        rw [this]; simp

theorem rpl_none (p z : List Nat) : ∀ (l : List Nat) (i k : Nat), occL p k i l = [] → k = 0 → rpl p z k l = l
  | [], i, k, h, hk => by simp [rpl]
  | c :: t, i, k, h, hk => by
    subst hk
    simp only [occL] at h
    simp only [rpl]
    split at h
    · exact absurd h (by simp)
    · rename_i hc
      rw [if_neg hc, rpl_none p z t (i+1) 0 h rfl]

theorem replace_list (x y z : Str) (hy : 0 < y.length) :
    (if ((occurrences x y 0 x.length (x.length + 1)).isEmpty || (y.length == 0 && z.length == 0)) = true then x
      else glued z (partsBetween x (occurrences x y 0 x.length (x.length + 1)) y.length))
    = ⟨(rpl y.cps.toList z.cps.toList 0 x.cps.toList).toArray⟩ := by
  have hy0 : (y.length == 0) = false := by simp; omega
  have e : y.length = y.cps.toList.length := by simp [Str.length]
  rw [hy0, occ_list x y hy]
  simp only [Bool.false_and, Bool.or_false]
  split
  · rename_i h
    rw [rpl_none _ _ _ 0 0 (List.isEmpty_iff.mp h) rfl]
  · have h1 := glued_flat x z (occL y.cps.toList 0 0 x.cps.toList) y.length
    have h2 := flat_occ x.cps.toList y.cps.toList z.cps.toList (by omega) x.cps.toList 0 0 0 rfl (by simp) (by simp)
    rw [e, h2] at h1
    rw [e]
    have h3 : (glued z (partsBetween x (occL y.cps.toList 0 0 x.cps.toList) y.cps.toList.length)).cps
        = (rpl y.cps.toList z.cps.toList 0 x.cps.toList).toArray := by
      rw [← Array.toList_inj, h1]; simp
    rw [← h3]

/- the law on marks: v = 118, u = 117, b = 98 -/
noncomputable def runM : Nat → List Nat → Option Nat
  | d, [] => some d
  | d, c :: t => if c = 118 then runM (d+1) t else if c = 117 then (if d < 1 then none else runM d t)
      else if c = 98 then (if d < 2 then none else runM (d-1) t) else none

theorem rpl_skip (p z : List Nat) : ∀ (k : Nat) (l : List Nat), rpl p z k l = rpl p z 0 (l.drop k)
  | 0, l => rfl
  | k+1, [] => by simp [rpl]
  | k+1, c :: t => by simp only [rpl, List.drop_succ_cons]; exact rpl_skip p z k t

theorem rpl_hit (p z t : List Nat) (hp : 0 < p.length) : rpl p z 0 (p ++ t) = z ++ rpl p z 0 t := by
  match p, hp with
  | c :: q, _ =>
    simp only [List.cons_append, rpl]
    have : (c :: q).isPrefixOf (c :: (q ++ t)) = true := by
      rw [List.isPrefixOf_iff_prefix]; exact ⟨t, rfl⟩
    rw [if_pos this, rpl_skip]
    simp

theorem rpl_miss (p z t : List Nat) (c : Nat) (h : ¬ (p <+: (c :: t))) : rpl p z 0 (c :: t) = c :: rpl p z 0 t := by
  simp only [rpl]
  rw [if_neg (fun hh => h (List.isPrefixOf_iff_prefix.mp hh))]

theorem rpl_run (p z : List Nat) (hp : 0 < p.length) (hr : ∀ d t, runM d (z ++ t) = runM d (p ++ t)) :
    ∀ (n : Nat) (l : List Nat), l.length ≤ n → ∀ d, runM d (rpl p z 0 l) = runM d l
  | 0, l, h, d => by
    have : l = [] := List.length_eq_zero_iff.mp (by omega)
    subst this; rfl
  | n+1, l, h, d => by
    match l with
    | [] => rfl
    | c :: t =>
      by_cases hc : p <+: (c :: t)
      · obtain ⟨t', ht'⟩ := hc
        rw [← ht', rpl_hit p z t' hp]
        have hl : t'.length ≤ n := by
          have := congrArg List.length ht'
          simp at this; simp at h; omega
        have ih := rpl_run p z hp hr n t' hl
        rw [hr]
        -- both runs pass p in the same way
        have pass : ∀ (q : List Nat) (d : Nat) (a b : List Nat), (∀ d, runM d a = runM d b) → runM d (q ++ a) = runM d (q ++ b) := by
          intro q
          induction q with
          | nil => intro d a b hab; exact hab d
          | cons c q ihq =>
            intro d a b hab
            simp only [List.cons_append, runM]
            rw [ihq (d+1) a b hab, ihq d a b hab, ihq (d-1) a b hab]
        exact pass p d _ _ ih
      · rw [rpl_miss p z t c hc]
        have ih := rpl_run p z hp hr n t (by simp at h; omega)
        simp only [runM]
        rw [ih (d+1), ih d, ih (d-1)]

theorem rpl_len (p z : List Nat) (hp : z.length < p.length) : ∀ (n : Nat) (l : List Nat), l.length ≤ n → (rpl p z 0 l).length ≤ l.length
  | 0, l, h => by
    have : l = [] := List.length_eq_zero_iff.mp (by omega)
    subst this; simp [rpl]
  | n+1, l, h => by
    match l with
    | [] => simp [rpl]
    | c :: t =>
      by_cases hc : p <+: (c :: t)
      · obtain ⟨t', ht'⟩ := hc
        rw [← ht', rpl_hit p z t' (by omega)]
        have hl : t'.length ≤ n := by
          have := congrArg List.length ht'
          simp at this; simp at h; omega
        have ih := rpl_len p z hp n t' hl
        simp; omega
      · rw [rpl_miss p z t c hc]
        have ih := rpl_len p z hp n t (by simp at h; omega)
        simp; omega

theorem rpl_short (p z : List Nat) (hp : z.length < p.length) : ∀ (pre t : List Nat), (rpl p z 0 (pre ++ (p ++ t))).length < (pre ++ (p ++ t)).length
  | [], t => by
    rw [List.nil_append, rpl_hit p z t (by omega)]
    have := rpl_len p z hp t.length t (Nat.le_refl _)
    simp; omega
  | c :: pre, t => by
    by_cases hc : p <+: (c :: (pre ++ (p ++ t)))
    · obtain ⟨t', ht'⟩ := hc
      rw [List.cons_append, ← ht', rpl_hit p z t' (by omega)]
      have := rpl_len p z hp t'.length t' (Nat.le_refl _)
      simp; omega
    · rw [List.cons_append, rpl_miss p z _ c hc]
      have := rpl_short p z hp pre t
      simp only [List.length_cons]; omega

noncomputable def stepM (l : List Nat) : List Nat := rpl [118,118,98] [118] 0 (rpl [118,117] [118] 0 l)

theorem stepM_run (l : List Nat) (d : Nat) : runM d (stepM l) = runM d l := by
  unfold stepM
  rw [rpl_run [118,118,98] [118] (by decide) _ _ _ (Nat.le_refl _), rpl_run [118,117] [118] (by decide) _ _ _ (Nat.le_refl _)]
  · intro d t; simp [runM]
  · intro d t; simp [runM]; try omega

theorem run_norm : ∀ (l : List Nat) (d e : Nat), runM d l = some e →
    (∀ pre t, List.replicate d 118 ++ l ≠ pre ++ ([118,117] ++ t)) → (∀ pre t, List.replicate d 118 ++ l ≠ pre ++ ([118,118,98] ++ t)) →
    l = List.replicate (e - d) 118 ∧ d ≤ e
  | [], d, e, h, _, _ => by
    simp only [runM, Option.some.injEq] at h; subst h; simp
  | c :: t, d, e, h, h1, h2 => by
    simp only [runM] at h
    split at h
    · rename_i hc; subst hc
      have e1 : List.replicate (d+1) 118 ++ t = List.replicate d 118 ++ 118 :: t := by
        rw [List.replicate_succ']; simp
      obtain ⟨ha, hb⟩ := run_norm t (d+1) e h (by rw [e1]; exact h1) (by rw [e1]; exact h2)
      have : e - d = (e - (d+1)) + 1 := by omega
      exact ⟨by rw [this, List.replicate_succ, ← ha], by omega⟩
    · split at h
      · rename_i hc; subst hc
        split at h
        · exact absurd h (by simp)
        · exfalso
          apply h1 (List.replicate (d-1) 118) t
          have : d = (d-1)+1 := by omega
          conv => lhs; rw [this, List.replicate_succ']
          simp
      · split at h
        · rename_i hc; subst hc
          split at h
          · exact absurd h (by simp)
          · exfalso
            apply h2 (List.replicate (d-2) 118) t
            have : d = (d-2)+1+1 := by omega
            conv => lhs; rw [this, List.replicate_succ', List.replicate_succ']
            simp
        · exact absurd h (by simp)

theorem stepM_short (l : List Nat) (h : runM 0 l = some 1) (hl : l ≠ [118]) : (stepM l).length < l.length := by
  have hA := rpl_len [118,117] [118] (by decide) _ l (Nat.le_refl _)
  have hB := rpl_len [118,118,98] [118] (by decide) _ (rpl [118,117] [118] 0 l) (Nat.le_refl _)
  unfold stepM
  by_cases h1 : ∃ pre t, l = pre ++ ([118,117] ++ t)
  · obtain ⟨pre, t, rfl⟩ := h1
    have := rpl_short [118,117] [118] (by decide) pre t
    omega
  · by_cases hlen : (rpl [118,117] [118] 0 l).length < l.length
    · omega
    · -- nothing was replaced
      have hsame : rpl [118,117] [118] 0 l = l := by
        have key : ∀ l : List Nat, (¬ ∃ pre t, l = pre ++ ([118,117] ++ t)) → rpl [118,117] [118] 0 l = l := by
          intro l
          induction l with
          | nil => intro _; rfl
          | cons c t ih =>
            intro hn
            have hm : ¬ ([118,117] <+: (c :: t)) := by
              rintro ⟨t', ht'⟩
              exact hn ⟨[], t', by rw [← ht']; rfl⟩
            rw [rpl_miss _ _ _ _ hm, ih]
            rintro ⟨pre, t', ht'⟩
            exact hn ⟨c :: pre, t', by rw [ht']; rfl⟩
        exact key l h1
      rw [hsame]
      by_cases h2 : ∃ pre t, l = pre ++ ([118,118,98] ++ t)
      · obtain ⟨pre, t, rfl⟩ := h2
        exact rpl_short [118,118,98] [118] (by decide) pre t
      · exfalso
        have := run_norm l 0 1 h (fun pre t he => h1 ⟨pre, t, by simpa using he⟩) (fun pre t he => h2 ⟨pre, t, by simpa using he⟩)
        exact hl this.1

noncomputable def iterM : Nat → List Nat → List Nat
  | 0, l => l
  | n+1, l => iterM n (stepM l)

theorem iterM_run : ∀ n l d, runM d (iterM n l) = runM d l
  | 0, l, d => rfl
  | n+1, l, d => by simp only [iterM]; rw [iterM_run n, stepM_run]

theorem iterM_end : ∀ n l, runM 0 l = some 1 → l.length ≤ n + 1 → iterM n l = [118]
  | 0, l, h, hl => by
    simp only [iterM]
    match l, hl, h with
    | [], _, h => simp [runM] at h
    | [c], _, h =>
      simp only [runM] at h
      split at h
      · rename_i hc; rw [hc]
      · simp at h
  | n+1, l, h, hl => by
    simp only [iterM]
    by_cases he : l = [118]
    · subst he
      exact iterM_end n _ (by rw [stepM_run]; exact h) (by rw [show stepM [118] = [118] from by decide]; simp)
    · have := stepM_short l h he
      exact iterM_end n _ (by rw [stepM_run]; exact h) (by omega)

theorem due_law (l : List Nat) : (iterM l.length l = [118]) ↔ runM 0 l = some 1 := by
  constructor
  · intro h
    rw [← iterM_run l.length l 0, h]; rfl
  · intro h
    exact iterM_end _ _ h (by omega)
end Mine
end

section
set_option autoImplicit false
set_option linter.unusedVariables false
set_option maxRecDepth 100000
namespace Mine
open PySem
noncomputable def tv : List (Str × V) := (topTab PySem.Challenge.pw_k12_0017.main.body [] []).1
noncomputable abbrev G (d : Nat) : Glob := globs PySem.Challenge.pw_k12_0017 (fun x => tv.lookup x) false d
noncomputable def n_c : Str := ⟨#[99]⟩
noncomputable def n_post : Str := ⟨#[112, 111, 115, 116]⟩
noncomputable def n_depth : Str := ⟨#[100, 101, 112, 116, 104]⟩
noncomputable def n_item : Str := ⟨#[105, 116, 101, 109]⟩
noncomputable def n_kind : Str := ⟨#[107, 105, 110, 100]⟩
noncomputable def n_sign : Str := ⟨#[115, 105, 103, 110]⟩
noncomputable def n_script : Str := ⟨#[115, 99, 114, 105, 112, 116]⟩
noncomputable def n_i : Str := ⟨#[105]⟩
noncomputable def n_a : Str := ⟨#[97]⟩
noncomputable def n_way : Str := ⟨#[119, 97, 121]⟩
noncomputable def n_done : Str := ⟨#[100, 111, 110, 101]⟩
noncomputable def n_marks : Str := ⟨#[109, 97, 114, 107, 115]⟩
noncomputable def n_left : Str := ⟨#[108, 101, 102, 116]⟩
noncomputable def n_turn : Str := ⟨#[116, 117, 114, 110]⟩
noncomputable def n_edit : Str := ⟨#[101, 100, 105, 116]⟩
noncomputable def n_at : Str := ⟨#[97, 116]⟩
noncomputable def n_odd : Str := ⟨#[111, 100, 100]⟩
noncomputable def n_rest : Str := ⟨#[114, 101, 115, 116]⟩
noncomputable def n_kept : Str := ⟨#[107, 101, 112, 116]⟩
noncomputable def n_want : Str := ⟨#[119, 97, 110, 116]⟩
noncomputable def n_got : Str := ⟨#[103, 111, 116]⟩
noncomputable def f_is_plain_sign : Str := ⟨#[105, 115, 95, 112, 108, 97, 105, 110, 95, 115, 105, 103, 110]⟩
noncomputable def f_postfix_ok : Str := ⟨#[112, 111, 115, 116, 102, 105, 120, 95, 111, 107]⟩
noncomputable def f_law_cell : Str := ⟨#[95, 108, 97, 119, 95, 99, 101, 108, 108]⟩
noncomputable def f_law_leaf : Str := ⟨#[95, 108, 97, 119, 95, 108, 101, 97, 102]⟩
noncomputable def f_law_unary : Str := ⟨#[95, 108, 97, 119, 95, 117, 110, 97, 114, 121]⟩
noncomputable def f_law_binary : Str := ⟨#[95, 108, 97, 119, 95, 98, 105, 110, 97, 114, 121]⟩
noncomputable def f_law_piece : Str := ⟨#[95, 108, 97, 119, 95, 112, 105, 101, 99, 101]⟩
noncomputable def f_law_grown : Str := ⟨#[95, 108, 97, 119, 95, 103, 114, 111, 119, 110]⟩
noncomputable def f_law_due : Str := ⟨#[95, 108, 97, 119, 95, 100, 117, 101]⟩
noncomputable def f_law : Str := ⟨#[108, 97, 119]⟩
theorem ne_postfix_ok : (n_post = n_depth) = False ∧ (n_post = n_item) = False ∧ (n_post = n_kind) = False ∧ (n_post = n_sign) = False ∧ (n_depth = n_post) = False ∧ (n_depth = n_item) = False ∧ (n_depth = n_kind) = False ∧ (n_depth = n_sign) = False ∧ (n_item = n_post) = False ∧ (n_item = n_depth) = False ∧ (n_item = n_kind) = False ∧ (n_item = n_sign) = False ∧ (n_kind = n_post) = False ∧ (n_kind = n_depth) = False ∧ (n_kind = n_item) = False ∧ (n_kind = n_sign) = False ∧ (n_sign = n_post) = False ∧ (n_sign = n_depth) = False ∧ (n_sign = n_item) = False ∧ (n_sign = n_kind) = False := ⟨eq_false (by decide), eq_false (by decide), eq_false (by decide), eq_false (by decide), eq_false (by decide), eq_false (by decide), eq_false (by decide), eq_false (by decide), eq_false (by decide), eq_false (by decide), eq_false (by decide), eq_false (by decide), eq_false (by decide), eq_false (by decide), eq_false (by decide), eq_false (by decide), eq_false (by decide), eq_false (by decide), eq_false (by decide), eq_false (by decide)⟩
theorem ne_law_cell : (n_script = n_i) = False ∧ (n_i = n_script) = False := ⟨eq_false (by decide), eq_false (by decide)⟩
theorem ne_law_piece : (n_way = n_a) = False ∧ (n_way = n_c) = False ∧ (n_a = n_way) = False ∧ (n_a = n_c) = False ∧ (n_c = n_way) = False ∧ (n_c = n_a) = False := ⟨eq_false (by decide), eq_false (by decide), eq_false (by decide), eq_false (by decide), eq_false (by decide), eq_false (by decide)⟩
theorem ne_law_grown : (n_script = n_done) = False ∧ (n_script = n_i) = False ∧ (n_script = n_way) = False ∧ (n_script = n_a) = False ∧ (n_done = n_script) = False ∧ (n_done = n_i) = False ∧ (n_done = n_way) = False ∧ (n_done = n_a) = False ∧ (n_i = n_script) = False ∧ (n_i = n_done) = False ∧ (n_i = n_way) = False ∧ (n_i = n_a) = False ∧ (n_way = n_script) = False ∧ (n_way = n_done) = False ∧ (n_way = n_i) = False ∧ (n_way = n_a) = False ∧ (n_a = n_script) = False ∧ (n_a = n_done) = False ∧ (n_a = n_i) = False ∧ (n_a = n_way) = False := ⟨eq_false (by decide), eq_false (by decide), eq_false (by decide), eq_false (by decide), eq_false (by decide), eq_false (by decide), eq_false (by decide), eq_false (by decide), eq_false (by decide), eq_false (by decide), eq_false (by decide), eq_false (by decide), eq_false (by decide), eq_false (by decide), eq_false (by decide), eq_false (by decide), eq_false (by decide), eq_false (by decide), eq_false (by decide), eq_false (by decide)⟩
theorem ne_law_due : (n_marks = n_left) = False ∧ (n_marks = n_turn) = False ∧ (n_left = n_marks) = False ∧ (n_left = n_turn) = False ∧ (n_turn = n_marks) = False ∧ (n_turn = n_left) = False := ⟨eq_false (by decide), eq_false (by decide), eq_false (by decide), eq_false (by decide), eq_false (by decide), eq_false (by decide)⟩
theorem ne_law : (n_script = n_done) = False ∧ (n_script = n_edit) = False ∧ (n_script = n_at) = False ∧ (n_script = n_odd) = False ∧ (n_script = n_rest) = False ∧ (n_script = n_post) = False ∧ (n_script = n_kept) = False ∧ (n_script = n_want) = False ∧ (n_script = n_got) = False ∧ (n_done = n_script) = False ∧ (n_done = n_edit) = False ∧ (n_done = n_at) = False ∧ (n_done = n_odd) = False ∧ (n_done = n_rest) = False ∧ (n_done = n_post) = False ∧ (n_done = n_kept) = False ∧ (n_done = n_want) = False ∧ (n_done = n_got) = False ∧ (n_edit = n_script) = False ∧ (n_edit = n_done) = False ∧ (n_edit = n_at) = False ∧ (n_edit = n_odd) = False ∧ (n_edit = n_rest) = False ∧ (n_edit = n_post) = False ∧ (n_edit = n_kept) = False ∧ (n_edit = n_want) = False ∧ (n_edit = n_got) = False ∧ (n_at = n_script) = False ∧ (n_at = n_done) = False ∧ (n_at = n_edit) = False ∧ (n_at = n_odd) = False ∧ (n_at = n_rest) = False ∧ (n_at = n_post) = False ∧ (n_at = n_kept) = False ∧ (n_at = n_want) = False ∧ (n_at = n_got) = False ∧ (n_odd = n_script) = False ∧ (n_odd = n_done) = False ∧ (n_odd = n_edit) = False ∧ (n_odd = n_at) = False ∧ (n_odd = n_rest) = False ∧ (n_odd = n_post) = False ∧ (n_odd = n_kept) = False ∧ (n_odd = n_want) = False ∧ (n_odd = n_got) = False ∧ (n_rest = n_script) = False ∧ (n_rest = n_done) = False ∧ (n_rest = n_edit) = False ∧ (n_rest = n_at) = False ∧ (n_rest = n_odd) = False ∧ (n_rest = n_post) = False ∧ (n_rest = n_kept) = False ∧ (n_rest = n_want) = False ∧ (n_rest = n_got) = False ∧ (n_post = n_script) = False ∧ (n_post = n_done) = False ∧ (n_post = n_edit) = False ∧ (n_post = n_at) = False ∧ (n_post = n_odd) = False ∧ (n_post = n_rest) = False ∧ (n_post = n_kept) = False ∧ (n_post = n_want) = False ∧ (n_post = n_got) = False ∧ (n_kept = n_script) = False ∧ (n_kept = n_done) = False ∧ (n_kept = n_edit) = False ∧ (n_kept = n_at) = False ∧ (n_kept = n_odd) = False ∧ (n_kept = n_rest) = False ∧ (n_kept = n_post) = False ∧ (n_kept = n_want) = False ∧ (n_kept = n_got) = False ∧ (n_want = n_script) = False ∧ (n_want = n_done) = False ∧ (n_want = n_edit) = False ∧ (n_want = n_at) = False ∧ (n_want = n_odd) = False ∧ (n_want = n_rest) = False ∧ (n_want = n_post) = False ∧ (n_want = n_kept) = False ∧ (n_want = n_got) = False ∧ (n_got = n_script) = False ∧ (n_got = n_done) = False ∧ (n_got = n_edit) = False ∧ (n_got = n_at) = False ∧ (n_got = n_odd) = False ∧ (n_got = n_rest) = False ∧ (n_got = n_post) = False ∧ (n_got = n_kept) = False ∧ (n_got = n_want) = False := ⟨eq_false (by decide), eq_false (by decide), eq_false (by decide), eq_false (by decide), eq_false (by decide), eq_false (by decide), eq_false (by decide), eq_false (by decide), eq_false (by decide), eq_false (by decide), eq_false (by decide), eq_false (by decide), eq_false (by decide), eq_false (by decide), eq_false (by decide), eq_false (by decide), eq_false (by decide), eq_false (by decide), eq_false (by decide), eq_false (by decide), eq_false (by decide), eq_false (by decide), eq_false (by decide), eq_false (by decide), eq_false (by decide), eq_false (by decide), eq_false (by decide), eq_false (by decide), eq_false (by decide), eq_false (by decide), eq_false (by decide), eq_false (by decide), eq_false (by decide), eq_false (by decide), eq_false (by decide), eq_false (by decide), eq_false (by decide), eq_false (by decide), eq_false (by decide), eq_false (by decide), eq_false (by decide), eq_false (by decide), eq_false (by decide), eq_false (by decide), eq_false (by decide), eq_false (by decide), eq_false (by decide), eq_false (by decide), eq_false (by decide), eq_false (by decide), eq_false (by decide), eq_false (by decide), eq_false (by decide), eq_false (by decide), eq_false (by decide), eq_false (by decide), eq_false (by decide), eq_false (by decide), eq_false (by decide), eq_false (by decide), eq_false (by decide), eq_false (by decide), eq_false (by decide), eq_false (by decide), eq_false (by decide), eq_false (by decide), eq_false (by decide), eq_false (by decide), eq_false (by decide), eq_false (by decide), eq_false (by decide), eq_false (by decide), eq_false (by decide), eq_false (by decide), eq_false (by decide), eq_false (by decide), eq_false (by decide), eq_false (by decide), eq_false (by decide), eq_false (by decide), eq_false (by decide), eq_false (by decide), eq_false (by decide), eq_false (by decide), eq_false (by decide), eq_false (by decide), eq_false (by decide), eq_false (by decide), eq_false (by decide), eq_false (by decide)⟩
noncomputable def is_plain_sign_s (d : Nat) (a_c : V) (h : Hp) : Option (V × Hp) :=
let b := h.length
(callB b_len [a_c] h).bind fun p0 =>
(cmpop .Eq p0.1 (V.int (1)) p0.2).bind fun t1 =>
(truthV (V.bool t1)).bind fun t2 =>
if t2 then
(cmpop .In a_c (V.str ⟨#[97, 98, 99, 100, 101, 102, 103, 104, 105, 106, 107, 108, 109, 110, 111, 112, 113, 114, 115, 116, 117, 118, 119, 120, 121, 122, 48, 49, 50, 51, 52, 53, 54, 55, 56, 57]⟩) p0.2).bind fun t3 =>
some ((V.bool t3), p0.2)
else
some ((V.bool t1), p0.2)

theorem is_plain_sign_eq (d : Nat) (a_c : V) (h : Hp) : (G (d + 2)).fn f_is_plain_sign [a_c] h = is_plain_sign_s d a_c h := (fn_eq ..).trans (by kernel_rfl)

noncomputable def postfix_ok_l5 (d b : Nat) (x : V) (ρ : Rho) (h : Hp) : Option (Fl × Rho × Hp) :=
(callB b_isinstance [x, (V.type "tuple")] h).bind fun p6 =>
(truthV p6.1).bind fun t7 =>
if (!t7) then
some ((Fl.ret (V.bool false)), (upd ρ n_item x), p6.2)
else
(callB b_len [x] p6.2).bind fun p8 =>
(cmpop .NotEq p8.1 (V.int (2)) p8.2).bind fun t9 =>
if t9 then
some ((Fl.ret (V.bool false)), (upd ρ n_item x), p8.2)
else
(idx x (V.int (0)) p8.2).bind fun v10 =>
(idx x (V.int (1)) p8.2).bind fun v11 =>
(callB b_isinstance [v10, (V.type "str")] p8.2).bind fun p12 =>
(truthV p12.1).bind fun t13 =>
if (!t13) then
some ((Fl.ret (V.bool false)), (upd (upd (upd ρ n_item x) n_kind v10) n_sign v11), p12.2)
else
(callB b_isinstance [v11, (V.type "str")] p12.2).bind fun p14 =>
(truthV p14.1).bind fun t15 =>
if (!t15) then
some ((Fl.ret (V.bool false)), (upd (upd (upd ρ n_item x) n_kind v10) n_sign v11), p14.2)
else
(cmpop .Eq v10 (V.str ⟨#[99, 104, 114]⟩) p14.2).bind fun t16 =>
if t16 then
((G (d + 1)).fn f_is_plain_sign [v11] p14.2).bind fun p17 =>
(truthV p17.1).bind fun t18 =>
if (!t18) then
some ((Fl.ret (V.bool false)), (upd (upd (upd ρ n_item x) n_kind v10) n_sign v11), p17.2)
else
(ρ n_depth).bind fun v19 =>
(binop .Add v19 (V.int (1)) p17.2).bind fun p20 =>
some (Fl.next, (upd (upd (upd (upd ρ n_item x) n_kind v10) n_sign v11) n_depth p20.1), p20.2)
else
(cmpop .NotEq v11 (V.str ⟨#[]⟩) p14.2).bind fun t21 =>
if t21 then
some ((Fl.ret (V.bool false)), (upd (upd (upd ρ n_item x) n_kind v10) n_sign v11), p14.2)
else
(cmpop .In v10 (V.tup [(V.str ⟨#[97, 110, 121]⟩), (V.str ⟨#[101, 112, 115]⟩)]) p14.2).bind fun t22 =>
if t22 then
(ρ n_depth).bind fun v23 =>
(binop .Add v23 (V.int (1)) p14.2).bind fun p24 =>
some (Fl.next, (upd (upd (upd (upd ρ n_item x) n_kind v10) n_sign v11) n_depth p24.1), p24.2)
else
(cmpop .In v10 (V.tup [(V.str ⟨#[115, 116, 97, 114]⟩), (V.str ⟨#[112, 108, 117, 115]⟩), (V.str ⟨#[111, 112, 116]⟩)]) p14.2).bind fun t25 =>
if t25 then
(ρ n_depth).bind fun v26 =>
(cmpop .Lt v26 (V.int (1)) p14.2).bind fun t27 =>
if t27 then
some ((Fl.ret (V.bool false)), (upd (upd (upd ρ n_item x) n_kind v10) n_sign v11), p14.2)
else
some (Fl.next, (upd (upd (upd ρ n_item x) n_kind v10) n_sign v11), p14.2)
else
(cmpop .In v10 (V.tup [(V.str ⟨#[99, 97, 116]⟩), (V.str ⟨#[97, 108, 116]⟩)]) p14.2).bind fun t28 =>
if t28 then
(ρ n_depth).bind fun v29 =>
(cmpop .Lt v29 (V.int (2)) p14.2).bind fun t30 =>
if t30 then
some ((Fl.ret (V.bool false)), (upd (upd (upd ρ n_item x) n_kind v10) n_sign v11), p14.2)
else
(ρ n_depth).bind fun v31 =>
(binop .Sub v31 (V.int (1)) p14.2).bind fun p32 =>
some (Fl.next, (upd (upd (upd (upd ρ n_item x) n_kind v10) n_sign v11) n_depth p32.1), p32.2)
else
some ((Fl.ret (V.bool false)), (upd (upd (upd ρ n_item x) n_kind v10) n_sign v11), p14.2)

noncomputable def postfix_ok_s (d : Nat) (a_post : V) (h : Hp) : Option (V × Hp) :=
let b := h.length
(itemsOf a_post h).bind fun q4 =>
(loopS q4.2 q4.1 (postfix_ok_l5 d b) q4.1 (upd (fun x => List.lookup x (List.zip [n_post] [a_post]).reverse) n_depth (V.int (0))) h).bind fun q33 =>
(match q33.1 with
| .next =>
(q33.2.1 n_depth).bind fun v35 =>
(cmpop .Eq v35 (V.int (1)) q33.2.2).bind fun t36 =>
some ((V.bool t36), q33.2.2)
| f34 =>
(match f34 with
| .ret v => some (v, q33.2.2)
| .next => some (V.none, q33.2.2)
| _ => none))

theorem postfix_ok_eq (d : Nat) (a_post : V) (h : Hp) : (G (d + 2)).fn f_postfix_ok [a_post] h = postfix_ok_s d a_post h := (fn_eq ..).trans (by kernel_rfl)

noncomputable def law_cell_s (d : Nat) (a_script : V) (a_i : V) (h : Hp) : Option (V × Hp) :=
let b := h.length
(callB b_len [a_script] h).bind fun p37 =>
(cmpop .Lt a_i p37.1 p37.2).bind fun t38 =>
if t38 then
(idx a_script a_i p37.2).bind fun v39 =>
some (v39, p37.2)
else
some ((V.int (0)), p37.2)

theorem law_cell_eq (d : Nat) (a_script : V) (a_i : V) (h : Hp) : (G (d + 2)).fn f_law_cell [a_script, a_i] h = law_cell_s d a_script a_i h := (fn_eq ..).trans (by kernel_rfl)

noncomputable def law_leaf_s (d : Nat) (a_a : V) (h : Hp) : Option (V × Hp) :=
let b := h.length
(binop .Mod a_a (V.int (4)) h).bind fun p40 =>
(cmpop .Lt p40.1 (V.int (2)) p40.2).bind fun t41 =>
if t41 then
(binop .Mod a_a (V.int (4)) p40.2).bind fun p42 =>
(idx (V.tup [(V.str ⟨#[97, 110, 121]⟩), (V.str ⟨#[101, 112, 115]⟩), (V.str ⟨#[115, 116, 97, 114]⟩), (V.str ⟨#[112, 108, 117, 115]⟩), (V.str ⟨#[111, 112, 116]⟩), (V.str ⟨#[99, 97, 116]⟩), (V.str ⟨#[97, 108, 116]⟩)]) p42.1 p42.2).bind fun v43 =>
some ((V.tup [(V.tup [v43, (V.str ⟨#[]⟩)]), (V.str ⟨#[118]⟩)]), p42.2)
else
(binop .FloorDiv a_a (V.int (4)) p40.2).bind fun p44 =>
(binop .Mod p44.1 (V.int (36)) p44.2).bind fun p45 =>
(idx (V.str ⟨#[97, 98, 99, 100, 101, 102, 103, 104, 105, 106, 107, 108, 109, 110, 111, 112, 113, 114, 115, 116, 117, 118, 119, 120, 121, 122, 48, 49, 50, 51, 52, 53, 54, 55, 56, 57]⟩) p45.1 p45.2).bind fun v46 =>
some ((V.tup [(V.tup [(V.str ⟨#[99, 104, 114]⟩), v46]), (V.str ⟨#[118]⟩)]), p45.2)

theorem law_leaf_eq (d : Nat) (a_a : V) (h : Hp) : (G (d + 2)).fn f_law_leaf [a_a] h = law_leaf_s d a_a h := (fn_eq ..).trans (by kernel_rfl)

noncomputable def law_unary_s (d : Nat) (a_a : V) (h : Hp) : Option (V × Hp) :=
let b := h.length
(binop .Mod a_a (V.int (3)) h).bind fun p47 =>
(binop .Add (V.int (2)) p47.1 p47.2).bind fun p48 =>
(idx (V.tup [(V.str ⟨#[97, 110, 121]⟩), (V.str ⟨#[101, 112, 115]⟩), (V.str ⟨#[115, 116, 97, 114]⟩), (V.str ⟨#[112, 108, 117, 115]⟩), (V.str ⟨#[111, 112, 116]⟩), (V.str ⟨#[99, 97, 116]⟩), (V.str ⟨#[97, 108, 116]⟩)]) p48.1 p48.2).bind fun v49 =>
some ((V.tup [(V.tup [v49, (V.str ⟨#[]⟩)]), (V.str ⟨#[117]⟩)]), p48.2)

theorem law_unary_eq (d : Nat) (a_a : V) (h : Hp) : (G (d + 2)).fn f_law_unary [a_a] h = law_unary_s d a_a h := (fn_eq ..).trans (by kernel_rfl)

noncomputable def law_binary_s (d : Nat) (a_a : V) (h : Hp) : Option (V × Hp) :=
let b := h.length
(binop .Mod a_a (V.int (2)) h).bind fun p50 =>
(binop .Add (V.int (5)) p50.1 p50.2).bind fun p51 =>
(idx (V.tup [(V.str ⟨#[97, 110, 121]⟩), (V.str ⟨#[101, 112, 115]⟩), (V.str ⟨#[115, 116, 97, 114]⟩), (V.str ⟨#[112, 108, 117, 115]⟩), (V.str ⟨#[111, 112, 116]⟩), (V.str ⟨#[99, 97, 116]⟩), (V.str ⟨#[97, 108, 116]⟩)]) p51.1 p51.2).bind fun v52 =>
some ((V.tup [(V.tup [v52, (V.str ⟨#[]⟩)]), (V.str ⟨#[98]⟩)]), p51.2)

theorem law_binary_eq (d : Nat) (a_a : V) (h : Hp) : (G (d + 2)).fn f_law_binary [a_a] h = law_binary_s d a_a h := (fn_eq ..).trans (by kernel_rfl)

noncomputable def law_piece_s (d : Nat) (a_way : V) (a_a : V) (h : Hp) : Option (V × Hp) :=
let b := h.length
(binop .Add a_a (V.int (97)) h).bind fun p53 =>
(binop .Mod p53.1 (V.int (128)) p53.2).bind fun p54 =>
(callB b_chr [p54.1] p54.2).bind fun p55 =>
(cmpop .Eq a_way (V.int (0)) p55.2).bind fun t56 =>
if t56 then
((G (d + 1)).fn f_law_leaf [a_a] p55.2).bind fun p57 =>
some (p57.1, p57.2)
else
(cmpop .Eq a_way (V.int (1)) p55.2).bind fun t58 =>
if t58 then
((G (d + 1)).fn f_law_unary [a_a] p55.2).bind fun p59 =>
some (p59.1, p59.2)
else
(cmpop .Eq a_way (V.int (2)) p55.2).bind fun t60 =>
if t60 then
((G (d + 1)).fn f_law_binary [a_a] p55.2).bind fun p61 =>
some (p61.1, p61.2)
else
(cmpop .Eq a_way (V.int (3)) p55.2).bind fun t62 =>
if t62 then
(cmpop .In p55.1 (V.str ⟨#[97, 98, 99, 100, 101, 102, 103, 104, 105, 106, 107, 108, 109, 110, 111, 112, 113, 114, 115, 116, 117, 118, 119, 120, 121, 122, 48, 49, 50, 51, 52, 53, 54, 55, 56, 57]⟩) p55.2).bind fun t63 =>
if t63 then
some ((V.tup [(V.tup [(V.str ⟨#[99, 104, 114]⟩), p55.1]), (V.str ⟨#[118]⟩)]), p55.2)
else
some ((V.tup [(V.tup [(V.str ⟨#[99, 104, 114]⟩), p55.1]), (V.str ⟨#[120]⟩)]), p55.2)
else
(cmpop .Eq a_way (V.int (4)) p55.2).bind fun t64 =>
if t64 then
(binop .Mod a_a (V.int (7)) p55.2).bind fun p65 =>
(idx (V.tup [(V.str ⟨#[97, 110, 121]⟩), (V.str ⟨#[101, 112, 115]⟩), (V.str ⟨#[115, 116, 97, 114]⟩), (V.str ⟨#[112, 108, 117, 115]⟩), (V.str ⟨#[111, 112, 116]⟩), (V.str ⟨#[99, 97, 116]⟩), (V.str ⟨#[97, 108, 116]⟩)]) p65.1 p65.2).bind fun v66 =>
some ((V.tup [(V.tup [v66, p55.1]), (V.str ⟨#[120]⟩)]), p65.2)
else
(cmpop .Eq a_way (V.int (5)) p55.2).bind fun t67 =>
if t67 then
(binop .Mod a_a (V.int (8)) p55.2).bind fun p68 =>
(idx (V.tup [(V.tup [(V.str ⟨#[100, 111, 116]⟩), (V.str ⟨#[]⟩)]), (V.tup [(V.str ⟨#[]⟩), (V.str ⟨#[]⟩)]), (V.tup [(V.str ⟨#[99, 104, 114]⟩), (V.str ⟨#[]⟩)]), (V.tup [(V.str ⟨#[99, 104, 114]⟩), (V.str ⟨#[97, 98]⟩)]), (V.tup [(V.str ⟨#[38]⟩), (V.str ⟨#[]⟩)]), (V.tup [(V.str ⟨#[65, 110, 121]⟩), (V.str ⟨#[]⟩)]), (V.tup [(V.str ⟨#[42]⟩), (V.str ⟨#[]⟩)]), (V.tup [(V.str ⟨#[99, 104, 97, 114]⟩), (V.str ⟨#[97]⟩)])]) p68.1 p68.2).bind fun v69 =>
some ((V.tup [v69, (V.str ⟨#[120]⟩)]), p68.2)
else
(binop .Mod a_a (V.int (8)) p55.2).bind fun p70 =>
(idx (V.tup [(V.ref 0), (V.tup [(V.str ⟨#[97, 110, 121]⟩), (V.str ⟨#[]⟩), (V.str ⟨#[]⟩)]), (V.tup [(V.str ⟨#[99, 104, 114]⟩), (V.int (1))]), (V.tup [(V.str ⟨#[97, 110, 121]⟩)]), (V.tup [(V.str ⟨#[99, 104, 114]⟩), (V.str ⟨#[97]⟩), (V.str ⟨#[98]⟩)]), (V.tup [(V.str ⟨#[99, 104, 114]⟩), V.none]), (V.tup [(V.int (1)), (V.str ⟨#[]⟩)]), (V.ref 1)]) p70.1 p70.2).bind fun v71 =>
some ((V.tup [v71, (V.str ⟨#[120]⟩)]), p70.2)

theorem law_piece_eq (d : Nat) (a_way : V) (a_a : V) (h : Hp) : (G (d + 2)).fn f_law_piece [a_way, a_a] h = law_piece_s d a_way a_a h := (fn_eq ..).trans (by kernel_rfl)

noncomputable def law_grown_l75 (d b : Nat) (x : V) (ρ : Rho) (h : Hp) : Option (Fl × Rho × Hp) :=
(ρ n_script).bind fun v76 =>
((G (d + 1)).fn f_law_cell [v76, x] h).bind fun p77 =>
(binop .Mod p77.1 (V.int (5)) p77.2).bind fun p78 =>
(ρ n_script).bind fun v79 =>
(binop .Add x (V.int (3)) p78.2).bind fun p80 =>
((G (d + 1)).fn f_law_cell [v79, p80.1] p80.2).bind fun p81 =>
(cmpop .Eq p78.1 (V.int (1)) p81.2).bind fun t82 =>
if t82 then
(ρ n_done).bind fun v83 =>
((G (d + 1)).fn f_law_unary [p81.1] p81.2).bind fun p84 =>
(binop .Add v83 (V.ref p84.2.length) (p84.2 ++ [[p84.1]])).bind fun p85 =>
some (Fl.next, (upd (upd (upd (upd ρ n_i x) n_way p78.1) n_a p81.1) n_done p85.1), p85.2)
else
(cmpop .Eq p78.1 (V.int (2)) p81.2).bind fun t86 =>
if t86 then
(ρ n_done).bind fun v87 =>
((G (d + 1)).fn f_law_leaf [p81.1] p81.2).bind fun p88 =>
((G (d + 1)).fn f_law_binary [p81.1] p88.2).bind fun p89 =>
(binop .Add v87 (V.ref p89.2.length) (p89.2 ++ [[p88.1, p89.1]])).bind fun p90 =>
some (Fl.next, (upd (upd (upd (upd ρ n_i x) n_way p78.1) n_a p81.1) n_done p90.1), p90.2)
else
(cmpop .Eq p78.1 (V.int (3)) p81.2).bind fun t91 =>
if t91 then
((G (d + 1)).fn f_law_leaf [p81.1] p81.2).bind fun p92 =>
(ρ n_done).bind fun v93 =>
(binop .Add (V.ref p92.2.length) v93 (p92.2 ++ [[p92.1]])).bind fun p94 =>
((G (d + 1)).fn f_law_binary [p81.1] p94.2).bind fun p95 =>
(binop .Add p94.1 (V.ref p95.2.length) (p95.2 ++ [[p95.1]])).bind fun p96 =>
some (Fl.next, (upd (upd (upd (upd ρ n_i x) n_way p78.1) n_a p81.1) n_done p96.1), p96.2)
else
(cmpop .Eq p78.1 (V.int (4)) p81.2).bind fun t97 =>
if t97 then
(ρ n_done).bind fun v98 =>
(ρ n_done).bind fun v99 =>
(binop .Add v98 v99 p81.2).bind fun p100 =>
((G (d + 1)).fn f_law_binary [p81.1] p100.2).bind fun p101 =>
(binop .Add p100.1 (V.ref p101.2.length) (p101.2 ++ [[p101.1]])).bind fun p102 =>
some (Fl.next, (upd (upd (upd (upd ρ n_i x) n_way p78.1) n_a p81.1) n_done p102.1), p102.2)
else
some (Fl.next, (upd (upd (upd ρ n_i x) n_way p78.1) n_a p81.1), p81.2)

noncomputable def law_grown_s (d : Nat) (a_script : V) (h : Hp) : Option (V × Hp) :=
let b := h.length
((G (d + 1)).fn f_law_cell [a_script, (V.int (4))] h).bind fun p72 =>
((G (d + 1)).fn f_law_leaf [p72.1] p72.2).bind fun p73 =>
(rangeArgs [(V.int (5)), (V.int (8))]).bind fun r74 =>
(loopS none (rangeV r74.1 r74.2) (law_grown_l75 d b) (rangeV r74.1 r74.2) (upd (fun x => List.lookup x (List.zip [n_script] [a_script]).reverse) n_done (V.ref p73.2.length)) (p73.2 ++ [[p73.1]])).bind fun q103 =>
(match q103.1 with
| .next =>
(q103.2.1 n_done).bind fun v105 =>
some (v105, q103.2.2)
| f104 =>
(match f104 with
| .ret v => some (v, q103.2.2)
| .next => some (V.none, q103.2.2)
| _ => none))

theorem law_grown_eq (d : Nat) (a_script : V) (h : Hp) : (G (d + 2)).fn f_law_grown [a_script] h = law_grown_s d a_script h := (fn_eq ..).trans (by kernel_rfl)

noncomputable def law_due_l107 (d b : Nat) (x : V) (ρ : Rho) (h : Hp) : Option (Fl × Rho × Hp) :=
(ρ n_left).bind fun v108 =>
(replV v108 ⟨#[118, 117]⟩ ⟨#[118]⟩ h).bind fun p109 =>
(replV p109.1 ⟨#[118, 118, 98]⟩ ⟨#[118]⟩ p109.2).bind fun p110 =>
some (Fl.next, (upd (upd ρ n_turn x) n_left p110.1), p110.2)

noncomputable def law_due_s (d : Nat) (a_marks : V) (h : Hp) : Option (V × Hp) :=
let b := h.length
(itemsOf a_marks h).bind fun q106 =>
(loopS q106.2 q106.1 (law_due_l107 d b) q106.1 (upd (fun x => List.lookup x (List.zip [n_marks] [a_marks]).reverse) n_left a_marks) h).bind fun q111 =>
(match q111.1 with
| .next =>
(q111.2.1 n_left).bind fun v113 =>
(cmpop .Eq v113 (V.str ⟨#[118]⟩) q111.2.2).bind fun t114 =>
some ((V.bool t114), q111.2.2)
| f112 =>
(match f112 with
| .ret v => some (v, q111.2.2)
| .next => some (V.none, q111.2.2)
| _ => none))

theorem law_due_eq (d : Nat) (a_marks : V) (h : Hp) : (G (d + 2)).fn f_law_due [a_marks] h = law_due_s d a_marks h := (fn_eq ..).trans (by kernel_rfl)

noncomputable def law_s (d : Nat) (a_script : V) (h : Hp) : Option (V × Hp) :=
let b := h.length
((G (d + 1)).fn f_law_grown [a_script] h).bind fun p115 =>
((G (d + 1)).fn f_law_cell [a_script, (V.int (0))] p115.2).bind fun p116 =>
(binop .Mod p116.1 (V.int (5)) p116.2).bind fun p117 =>
((G (d + 1)).fn f_law_cell [a_script, (V.int (1))] p117.2).bind fun p118 =>
(callB b_len [p115.1] p118.2).bind fun p119 =>
(binop .Add p119.1 (V.int (1)) p119.2).bind fun p120 =>
(binop .Mod p118.1 p120.1 p120.2).bind fun p121 =>
((G (d + 1)).fn f_law_cell [a_script, (V.int (2))] p121.2).bind fun p122 =>
(binop .Mod p122.1 (V.int (7)) p122.2).bind fun p123 =>
((G (d + 1)).fn f_law_cell [a_script, (V.int (3))] p123.2).bind fun p124 =>
((G (d + 1)).fn f_law_piece [p123.1, p124.1] p124.2).bind fun p125 =>
(cmpop .Eq p117.1 (V.int (1)) p125.2).bind fun t126 =>
if t126 then
(slice p115.1 V.none p121.1 V.none p125.2).bind fun p127 =>
(itemsOf p127.1 p127.2).bind fun q128 =>
(loopL q128.2 q128.1 (fun x129 h130 => 
(idx x129 (V.int (0)) h130).bind fun v132 =>
appendTo p127.2.length v132 h130) q128.1 (p127.2 ++ [[]])).bind fun h131 =>
(slice (V.ref p127.2.length) V.none V.none V.none h131).bind fun p133 =>
(itemsOf p127.1 p133.2).bind fun q134 =>
(loopL q134.2 q134.1 (fun x135 h136 => 
(idx x135 (V.int (1)) h136).bind fun v138 =>
appendTo p133.2.length v138 h136) q134.1 (p133.2 ++ [[]])).bind fun h137 =>
(callM b m_join (V.str ⟨#[]⟩) [(V.ref p133.2.length)] h137).bind fun p139 =>
((G (d + 1)).fn f_law_due [p139.1] p139.2).bind fun p140 =>
((G (d + 1)).fn f_postfix_ok [(V.ref p127.2.length)] p140.2).bind fun p141 =>
(callB b_isinstance [p141.1, (V.type "bool")] p141.2).bind fun p142 =>
(truthV p142.1).bind fun t143 =>
if (!t143) then
some ((V.bool false), p142.2)
else
(cmpop .NotEq p141.1 p140.1 p142.2).bind fun t144 =>
if t144 then
some ((V.bool false), p142.2)
else
(cmpop .NotEq (V.ref p127.2.length) p133.1 p142.2).bind fun t145 =>
if t145 then
some ((V.bool false), p142.2)
else
some ((V.bool true), p142.2)
else
(cmpop .Eq p117.1 (V.int (2)) p125.2).bind fun t146 =>
if t146 then
(unop .USub (V.int (1))).bind fun u147 =>
(slice p115.1 V.none u147 V.none p125.2).bind fun p148 =>
(slice p148.1 V.none p121.1 V.none p148.2).bind fun p149 =>
(unop .USub (V.int (1))).bind fun u150 =>
(slice p115.1 u150 V.none V.none p149.2).bind fun p151 =>
(binop .Add p149.1 p151.1 p151.2).bind fun p152 =>
(slice p148.1 p121.1 V.none V.none p152.2).bind fun p153 =>
(binop .Add p152.1 p153.1 p153.2).bind fun p154 =>
(itemsOf p154.1 p154.2).bind fun q155 =>
(loopL q155.2 q155.1 (fun x156 h157 => 
(idx x156 (V.int (0)) h157).bind fun v159 =>
appendTo p154.2.length v159 h157) q155.1 (p154.2 ++ [[]])).bind fun h158 =>
(slice (V.ref p154.2.length) V.none V.none V.none h158).bind fun p160 =>
(itemsOf p154.1 p160.2).bind fun q161 =>
(loopL q161.2 q161.1 (fun x162 h163 => 
(idx x162 (V.int (1)) h163).bind fun v165 =>
appendTo p160.2.length v165 h163) q161.1 (p160.2 ++ [[]])).bind fun h164 =>
(callM b m_join (V.str ⟨#[]⟩) [(V.ref p160.2.length)] h164).bind fun p166 =>
((G (d + 1)).fn f_law_due [p166.1] p166.2).bind fun p167 =>
((G (d + 1)).fn f_postfix_ok [(V.ref p154.2.length)] p167.2).bind fun p168 =>
(callB b_isinstance [p168.1, (V.type "bool")] p168.2).bind fun p169 =>
(truthV p169.1).bind fun t170 =>
if (!t170) then
some ((V.bool false), p169.2)
else
(cmpop .NotEq p168.1 p167.1 p169.2).bind fun t171 =>
if t171 then
some ((V.bool false), p169.2)
else
(cmpop .NotEq (V.ref p154.2.length) p160.1 p169.2).bind fun t172 =>
if t172 then
some ((V.bool false), p169.2)
else
some ((V.bool true), p169.2)
else
(cmpop .Eq p117.1 (V.int (3)) p125.2).bind fun t173 =>
if t173 then
(slice p115.1 V.none p121.1 V.none p125.2).bind fun p174 =>
(binop .Add p174.1 (V.ref p174.2.length) (p174.2 ++ [[p125.1]])).bind fun p175 =>
(slice p115.1 p121.1 V.none V.none p175.2).bind fun p176 =>
(binop .Add p175.1 p176.1 p176.2).bind fun p177 =>
(itemsOf p177.1 p177.2).bind fun q178 =>
(loopL q178.2 q178.1 (fun x179 h180 => 
(idx x179 (V.int (0)) h180).bind fun v182 =>
appendTo p177.2.length v182 h180) q178.1 (p177.2 ++ [[]])).bind fun h181 =>
(slice (V.ref p177.2.length) V.none V.none V.none h181).bind fun p183 =>
(itemsOf p177.1 p183.2).bind fun q184 =>
(loopL q184.2 q184.1 (fun x185 h186 => 
(idx x185 (V.int (1)) h186).bind fun v188 =>
appendTo p183.2.length v188 h186) q184.1 (p183.2 ++ [[]])).bind fun h187 =>
(callM b m_join (V.str ⟨#[]⟩) [(V.ref p183.2.length)] h187).bind fun p189 =>
((G (d + 1)).fn f_law_due [p189.1] p189.2).bind fun p190 =>
((G (d + 1)).fn f_postfix_ok [(V.ref p177.2.length)] p190.2).bind fun p191 =>
(callB b_isinstance [p191.1, (V.type "bool")] p191.2).bind fun p192 =>
(truthV p192.1).bind fun t193 =>
if (!t193) then
some ((V.bool false), p192.2)
else
(cmpop .NotEq p191.1 p190.1 p192.2).bind fun t194 =>
if t194 then
some ((V.bool false), p192.2)
else
(cmpop .NotEq (V.ref p177.2.length) p183.1 p192.2).bind fun t195 =>
if t195 then
some ((V.bool false), p192.2)
else
some ((V.bool true), p192.2)
else
(cmpop .Eq p117.1 (V.int (4)) p125.2).bind fun t196 =>
if t196 then
(slice p115.1 V.none p121.1 V.none p125.2).bind fun p197 =>
(binop .Add p197.1 (V.ref p197.2.length) (p197.2 ++ [[p125.1]])).bind fun p198 =>
(binop .Add p121.1 (V.int (1)) p198.2).bind fun p199 =>
(slice p115.1 p199.1 V.none V.none p199.2).bind fun p200 =>
(binop .Add p198.1 p200.1 p200.2).bind fun p201 =>
(itemsOf p201.1 p201.2).bind fun q202 =>
(loopL q202.2 q202.1 (fun x203 h204 => 
(idx x203 (V.int (0)) h204).bind fun v206 =>
appendTo p201.2.length v206 h204) q202.1 (p201.2 ++ [[]])).bind fun h205 =>
(slice (V.ref p201.2.length) V.none V.none V.none h205).bind fun p207 =>
(itemsOf p201.1 p207.2).bind fun q208 =>
(loopL q208.2 q208.1 (fun x209 h210 => 
(idx x209 (V.int (1)) h210).bind fun v212 =>
appendTo p207.2.length v212 h210) q208.1 (p207.2 ++ [[]])).bind fun h211 =>
(callM b m_join (V.str ⟨#[]⟩) [(V.ref p207.2.length)] h211).bind fun p213 =>
((G (d + 1)).fn f_law_due [p213.1] p213.2).bind fun p214 =>
((G (d + 1)).fn f_postfix_ok [(V.ref p201.2.length)] p214.2).bind fun p215 =>
(callB b_isinstance [p215.1, (V.type "bool")] p215.2).bind fun p216 =>
(truthV p216.1).bind fun t217 =>
if (!t217) then
some ((V.bool false), p216.2)
else
(cmpop .NotEq p215.1 p214.1 p216.2).bind fun t218 =>
if t218 then
some ((V.bool false), p216.2)
else
(cmpop .NotEq (V.ref p201.2.length) p207.1 p216.2).bind fun t219 =>
if t219 then
some ((V.bool false), p216.2)
else
some ((V.bool true), p216.2)
else
(itemsOf p115.1 p125.2).bind fun q220 =>
(loopL q220.2 q220.1 (fun x221 h222 => 
(idx x221 (V.int (0)) h222).bind fun v224 =>
appendTo p125.2.length v224 h222) q220.1 (p125.2 ++ [[]])).bind fun h223 =>
(slice (V.ref p125.2.length) V.none V.none V.none h223).bind fun p225 =>
(itemsOf p115.1 p225.2).bind fun q226 =>
(loopL q226.2 q226.1 (fun x227 h228 => 
(idx x227 (V.int (1)) h228).bind fun v230 =>
appendTo p225.2.length v230 h228) q226.1 (p225.2 ++ [[]])).bind fun h229 =>
(callM b m_join (V.str ⟨#[]⟩) [(V.ref p225.2.length)] h229).bind fun p231 =>
((G (d + 1)).fn f_law_due [p231.1] p231.2).bind fun p232 =>
((G (d + 1)).fn f_postfix_ok [(V.ref p125.2.length)] p232.2).bind fun p233 =>
(callB b_isinstance [p233.1, (V.type "bool")] p233.2).bind fun p234 =>
(truthV p234.1).bind fun t235 =>
if (!t235) then
some ((V.bool false), p234.2)
else
(cmpop .NotEq p233.1 p232.1 p234.2).bind fun t236 =>
if t236 then
some ((V.bool false), p234.2)
else
(cmpop .NotEq (V.ref p125.2.length) p225.1 p234.2).bind fun t237 =>
if t237 then
some ((V.bool false), p234.2)
else
some ((V.bool true), p234.2)

theorem law_eq (d : Nat) (a_script : V) (h : Hp) : (G (d + 2)).fn f_law [a_script] h = law_s d a_script h := (fn_eq ..).trans (by kernel_rfl)
end Mine
end

section
set_option autoImplicit false
set_option maxRecDepth 100000
namespace Mine
open PySem

noncomputable def L0 : List V := [V.str ⟨#[97, 110, 121]⟩, V.str ⟨#[]⟩]
noncomputable def L1 : List V := [V.str ⟨#[99, 104, 114]⟩, V.str ⟨#[97]⟩]
/-- the top's two lists -/
structure Top2 (h : Hp) : Prop where
  l0 : h[0]? = some L0
  l1 : h[1]? = some L1
theorem Top2.app {h : Hp} (x : Top2 h) (L : Hp) : Top2 (h ++ L) := ⟨get_pre L x.l0, get_pre L x.l1⟩

theorem cell_spec (d : Nat) (ns : List Int) (k : Nat) (h : Hp) (h0 : h[2]? = some (ns.map V.int)) : (G (d + 2)).fn f_law_cell [.ref 2, .int k] h = some (.int (cell ns k), h) := by
  rw [law_cell_eq]
  unfold law_cell_s
  simp only [len_ref h h0, Option.bind_some, cmpop, List.length_map]
  by_cases hk : k < ns.length
  · have : (k : Int) < ns.length := by omega
    have e : idx (V.ref 2) (V.int k) h = some (.int (cell ns k)) := idx_ref h0 (by omega) (by simp [cell, hk])
    simp [this, e]
  · have : ¬ (k : Int) < ns.length := by omega
    simp [this, hk, cell]

noncomputable def plainS : List Nat := [97, 98, 99, 100, 101, 102, 103, 104, 105, 106, 107, 108, 109, 110, 111, 112, 113, 114, 115, 116, 117, 118, 119, 120, 121, 122, 48, 49, 50, 51, 52, 53, 54, 55, 56, 57]
theorem plain_spec (d : Nat) (s : Str) (h : Hp) : (G (d + 2)).fn f_is_plain_sign [.str s] h = some (.bool (((s.length : Int) == 1) && Txt.contains (S plainS) s), h) := by
  rw [is_plain_sign_eq]
  unfold is_plain_sign_s
  simp only [len_str, Option.bind_some, ci_eq, truth_bool]
  cases hs : ((s.length : Int) == 1)
  · simp
  · simp only [if_true, Bool.true_and]
    rfl

noncomputable def stM (m D : Nat) : Option Nat := if m = 118 then some (D + 1) else if m = 117 then (if D < 1 then none else some D) else if m = 98 then (if D < 2 then none else some (D - 1)) else none
theorem runM_cons (m D : Nat) (l : List Nat) : runM D (m :: l) = (stM m D).bind fun D' => runM D' l := by
  simp only [runM, stM]
  repeat' split
  all_goals first | rfl | simp_all

noncomputable def Good1 (r : Option (Fl × Rho × Hp)) (h : Hp) : Option Nat → Prop
  | some D' => ∃ ρ', r = some (.next, ρ', h) ∧ ρ' n_depth = some (.int D')
  | none => ∃ ρ', r = some (.ret (.bool false), ρ', h)

/-- an item with its mark -/
structure Piece (v : V) (m : Nat) : Prop where
  run : ∀ (d b : Nat) (ρ : Rho) (h : Hp) (D : Nat), ρ n_depth = some (.int D) → Good1 (postfix_ok_l5 (d + 1) b v ρ h) h (stM m D)
  rd : ∀ h : Hp, Top2 h → (rd 7 h v).isSome = true
  lt : m < 128

theorem up4 (ρ : Rho) (x y z w : V) : upd (upd (upd (upd ρ n_item x) n_kind y) n_sign z) n_depth w n_depth = some w := by simp [upd]
theorem up3 (ρ : Rho) (x y z : V) : upd (upd (upd ρ n_item x) n_kind y) n_sign z n_depth = ρ n_depth := by
  simp only [upd, ne_postfix_ok, if_false]

/-- a leaf without a sign -/
theorem piece_leaf {k : Str} (hk : ∀ (d b : Nat) (ρ : Rho) (h : Hp), postfix_ok_l5 (d + 1) b (.tup [.str k, .str ⟨#[]⟩]) ρ h = ((ρ n_depth).bind fun v23 => (binop .Add v23 (V.int (1)) h).bind fun p24 =>
    some (Fl.next, (upd (upd (upd (upd ρ n_item (.tup [.str k, .str ⟨#[]⟩])) n_kind (.str k)) n_sign (.str ⟨#[]⟩)) n_depth p24.1), p24.2))) (hr : k.cps.all (· < 0x110000) = true) : Piece (.tup [.str k, .str ⟨#[]⟩]) 118 := by
  refine ⟨fun d b ρ h D hD => ?_, fun h _ => rd_tup2 hr (by kernel_rfl), by decide⟩
  rw [hk, hD]
  exact ⟨_, rfl, by rw [up4]; rfl⟩
theorem piece_un {k : Str} (hk : ∀ (d b : Nat) (ρ : Rho) (h : Hp), postfix_ok_l5 (d + 1) b (.tup [.str k, .str ⟨#[]⟩]) ρ h = ((ρ n_depth).bind fun v26 => (cmpop .Lt v26 (V.int (1)) h).bind fun t27 =>
    if t27 then some ((Fl.ret (V.bool false)), (upd (upd (upd ρ n_item (.tup [.str k, .str ⟨#[]⟩])) n_kind (.str k)) n_sign (.str ⟨#[]⟩)), h)
    else some (Fl.next, (upd (upd (upd ρ n_item (.tup [.str k, .str ⟨#[]⟩])) n_kind (.str k)) n_sign (.str ⟨#[]⟩)), h))) (hr : k.cps.all (· < 0x110000) = true) : Piece (.tup [.str k, .str ⟨#[]⟩]) 117 := by
  refine ⟨fun d b ρ h D hD => ?_, fun h _ => rd_tup2 hr (by kernel_rfl), by decide⟩
  rw [hk, hD]
  simp only [Option.bind_some, ci_lt]
  by_cases h1 : D < 1
  · have : ((D : Int) < 1) := by omega
    simp only [this, decide_true, if_true, stM, h1]
    exact ⟨_, rfl⟩
  · have : ¬ ((D : Int) < 1) := by omega
    simp only [this, decide_false, if_false, stM, h1, Bool.false_eq_true]
    exact ⟨_, rfl, by rw [up3]; exact hD⟩
theorem piece_bin {k : Str} (hk : ∀ (d b : Nat) (ρ : Rho) (h : Hp), postfix_ok_l5 (d + 1) b (.tup [.str k, .str ⟨#[]⟩]) ρ h = ((ρ n_depth).bind fun v29 => (cmpop .Lt v29 (V.int (2)) h).bind fun t30 =>
    if t30 then some ((Fl.ret (V.bool false)), (upd (upd (upd ρ n_item (.tup [.str k, .str ⟨#[]⟩])) n_kind (.str k)) n_sign (.str ⟨#[]⟩)), h)
    else (ρ n_depth).bind fun v31 => (binop .Sub v31 (V.int (1)) h).bind fun p32 =>
      some (Fl.next, (upd (upd (upd (upd ρ n_item (.tup [.str k, .str ⟨#[]⟩])) n_kind (.str k)) n_sign (.str ⟨#[]⟩)) n_depth p32.1), p32.2))) (hr : k.cps.all (· < 0x110000) = true) : Piece (.tup [.str k, .str ⟨#[]⟩]) 98 := by
  refine ⟨fun d b ρ h D hD => ?_, fun h _ => rd_tup2 hr (by kernel_rfl), by decide⟩
  rw [hk, hD]
  simp only [Option.bind_some, ci_lt, hD]
  by_cases h1 : D < 2
  · have : ((D : Int) < 2) := by omega
    simp only [this, decide_true, if_true, stM, h1]
    exact ⟨_, rfl⟩
  · have : ¬ ((D : Int) < 2) := by omega
    simp only [this, decide_false, if_false, stM, h1, Bool.false_eq_true, bi_sub, Option.bind_some]
    refine ⟨_, rfl, ?_⟩
    rw [up4]
    congr 2
    omega
/-- an item that is refused out of hand -/
theorem piece_bad {v : V} (hk : ∀ (d b : Nat) (ρ : Rho) (h : Hp), ∃ ρ', postfix_ok_l5 (d + 1) b v ρ h = some (.ret (.bool false), ρ', h)) (hr : ∀ h : Hp, Top2 h → (rd 7 h v).isSome = true) : Piece v 120 :=
  ⟨fun d b ρ h D _ => hk d b ρ h, hr, by decide⟩
theorem chr_run (d b : Nat) (s : Str) (ρ : Rho) (h : Hp) : postfix_ok_l5 (d + 1) b (.tup [.str ⟨#[99, 104, 114]⟩, .str s]) ρ h = (((G (d + 2)).fn f_is_plain_sign [.str s] h).bind fun p17 =>
    (truthV p17.1).bind fun t18 => if (!t18) then some ((Fl.ret (V.bool false)), (upd (upd (upd ρ n_item (.tup [.str ⟨#[99, 104, 114]⟩, .str s])) n_kind (.str ⟨#[99, 104, 114]⟩)) n_sign (.str s)), p17.2)
    else (ρ n_depth).bind fun v19 => (binop .Add v19 (V.int (1)) p17.2).bind fun p20 =>
      some (Fl.next, (upd (upd (upd (upd ρ n_item (.tup [.str ⟨#[99, 104, 114]⟩, .str s])) n_kind (.str ⟨#[99, 104, 114]⟩)) n_sign (.str s)) n_depth p20.1), p20.2)) := by kernel_rfl
theorem piece_chr {c : Nat} (hc : c ∈ plainS) : Piece (.tup [.str ⟨#[99, 104, 114]⟩, .str ⟨#[c]⟩]) 118 := by
  have hlt : c < 128 := (show ∀ c ∈ plainS, c < 128 by decide) c hc
  refine ⟨fun d b ρ h D hD => ?_, fun h _ => rd_tup2 (by kernel_rfl) (by simp; omega), by decide⟩
  rw [chr_run, plain_spec, hD, contains_one]
  have : decide (c ∈ (S plainS).cps.toList) = true := by rw [S_list]; exact decide_eq_true hc
  rw [this]
  exact ⟨_, rfl, by rw [up4]; rfl⟩
theorem piece_bchr {s : Str} (hs : (((s.length : Int) == 1) && Txt.contains (S plainS) s) = false) (hr : s.cps.all (· < 0x110000) = true) : Piece (.tup [.str ⟨#[99, 104, 114]⟩, .str s]) 120 := by
  refine piece_bad (fun d b ρ h => ?_) fun h _ => rd_tup2 (by kernel_rfl) hr
  rw [chr_run, plain_spec, hs]
  exact ⟨_, rfl⟩

noncomputable def kinds7 : List V := [(V.str ⟨#[97, 110, 121]⟩), (V.str ⟨#[101, 112, 115]⟩), (V.str ⟨#[115, 116, 97, 114]⟩), (V.str ⟨#[112, 108, 117, 115]⟩), (V.str ⟨#[111, 112, 116]⟩), (V.str ⟨#[99, 97, 116]⟩), (V.str ⟨#[97, 108, 116]⟩)]
theorem p_any : Piece (.tup [.str ⟨#[97, 110, 121]⟩, .str ⟨#[]⟩]) 118 := piece_leaf (fun d b ρ h => by kernel_rfl) (by kernel_rfl)
theorem p_eps : Piece (.tup [.str ⟨#[101, 112, 115]⟩, .str ⟨#[]⟩]) 118 := piece_leaf (fun d b ρ h => by kernel_rfl) (by kernel_rfl)
theorem p_star : Piece (.tup [.str ⟨#[115, 116, 97, 114]⟩, .str ⟨#[]⟩]) 117 := piece_un (fun d b ρ h => by kernel_rfl) (by kernel_rfl)
theorem p_plus : Piece (.tup [.str ⟨#[112, 108, 117, 115]⟩, .str ⟨#[]⟩]) 117 := piece_un (fun d b ρ h => by kernel_rfl) (by kernel_rfl)
theorem p_opt : Piece (.tup [.str ⟨#[111, 112, 116]⟩, .str ⟨#[]⟩]) 117 := piece_un (fun d b ρ h => by kernel_rfl) (by kernel_rfl)
theorem p_cat : Piece (.tup [.str ⟨#[99, 97, 116]⟩, .str ⟨#[]⟩]) 98 := piece_bin (fun d b ρ h => by kernel_rfl) (by kernel_rfl)
theorem p_alt : Piece (.tup [.str ⟨#[97, 108, 116]⟩, .str ⟨#[]⟩]) 98 := piece_bin (fun d b ρ h => by kernel_rfl) (by kernel_rfl)

theorem leaf_spec (d : Nat) (a : Int) (h : Hp) : ∃ v, (G (d + 2)).fn f_law_leaf [.int a] h = some (.tup [v, .str ⟨#[118]⟩], h) ∧ Piece v 118 := by
  rw [law_leaf_eq]
  unfold law_leaf_s
  simp only [bi_mod h a (b := 4) (by decide), Option.bind_some, ci_lt]
  have h0 := fmod_lo a (b := 4) (by decide)
  by_cases h2 : a.fmod 4 < 2
  · simp only [h2, decide_true, if_true]
    obtain ⟨k, hk⟩ := Int.eq_ofNat_of_zero_le h0
    rw [hk] at h2 ⊢
    have : k = 0 ∨ k = 1 := by omega
    rcases this with rfl | rfl
    · exact ⟨_, rfl, p_any⟩
    · exact ⟨_, rfl, p_eps⟩
  · simp only [h2, decide_false, Bool.false_eq_true, if_false]
    rw [bi_fdiv h a (b := 4) (by decide) (by decide)]
    simp only [Option.bind_some, bi_mod h _ (b := 36) (by decide)]
    have g0 := fmod_lo (a.fdiv 4) (b := 36) (by decide)
    have g1 := fmod_hi (a.fdiv 4) (b := 36) (by decide)
    have hlen : plainS.length = 36 := by decide
    have hi : ((a.fdiv 4).fmod 36).toNat < plainS.length := by omega
    rw [show (⟨#[97, 98, 99, 100, 101, 102, 103, 104, 105, 106, 107, 108, 109, 110, 111, 112, 113, 114, 115, 116, 117, 118, 119, 120, 121, 122, 48, 49, 50, 51, 52, 53, 54, 55, 56, 57]⟩ : Str) = S plainS from rfl]
    rw [idx_str (c := plainS[((a.fdiv 4).fmod 36).toNat]) g0 (by
      show (plainS.toArray)[_]? = _
      rw [List.getElem?_toArray, List.getElem?_eq_getElem hi])]
    exact ⟨_, rfl, piece_chr (List.getElem_mem hi)⟩
theorem unary_spec (d : Nat) (a : Int) (h : Hp) : ∃ v, (G (d + 2)).fn f_law_unary [.int a] h = some (.tup [v, .str ⟨#[117]⟩], h) ∧ Piece v 117 := by
  rw [law_unary_eq]
  unfold law_unary_s
  simp only [bi_mod h a (b := 3) (by decide), Option.bind_some, bi_add]
  have h0 := fmod_lo a (b := 3) (by decide)
  have h1 := fmod_hi a (b := 3) (by decide)
  obtain ⟨k, hk⟩ := Int.eq_ofNat_of_zero_le h0
  rw [hk] at h1 ⊢
  have : k = 0 ∨ k = 1 ∨ k = 2 := by omega
  rcases this with rfl | rfl | rfl
  · exact ⟨_, rfl, p_star⟩
  · exact ⟨_, rfl, p_plus⟩
  · exact ⟨_, rfl, p_opt⟩
theorem binary_spec (d : Nat) (a : Int) (h : Hp) : ∃ v, (G (d + 2)).fn f_law_binary [.int a] h = some (.tup [v, .str ⟨#[98]⟩], h) ∧ Piece v 98 := by
  rw [law_binary_eq]
  unfold law_binary_s
  simp only [bi_mod h a (b := 2) (by decide), Option.bind_some, bi_add]
  have h0 := fmod_lo a (b := 2) (by decide)
  have h1 := fmod_hi a (b := 2) (by decide)
  obtain ⟨k, hk⟩ := Int.eq_ofNat_of_zero_le h0
  rw [hk] at h1 ⊢
  have : k = 0 ∨ k = 1 := by omega
  rcases this with rfl | rfl
  · exact ⟨_, rfl, p_cat⟩
  · exact ⟨_, rfl, p_alt⟩
end Mine
end

section
set_option autoImplicit false
set_option maxRecDepth 100000
namespace Mine
open PySem

theorem bad1 {v : V} (hk : ∀ (d b : Nat) (ρ : Rho) (h : Hp), postfix_ok_l5 (d + 1) b v ρ h = some (.ret (.bool false), upd ρ n_item v, h)) (hr : ∀ h : Hp, Top2 h → (rd 7 h v).isSome = true) : Piece v 120 :=
  piece_bad (fun d b ρ h => ⟨_, hk d b ρ h⟩) hr
theorem bad2 {x y : V} (hk : ∀ (d b : Nat) (ρ : Rho) (h : Hp), postfix_ok_l5 (d + 1) b (.tup [x, y]) ρ h = some (.ret (.bool false), upd (upd (upd ρ n_item (.tup [x, y])) n_kind x) n_sign y, h)) (hr : ∀ h : Hp, Top2 h → (rd 7 h (.tup [x, y])).isSome = true) : Piece (.tup [x, y]) 120 :=
  piece_bad (fun d b ρ h => ⟨_, hk d b ρ h⟩) hr

theorem lt7 : ∀ {n : Nat}, n < 7 → n = 0 ∨ n = 1 ∨ n = 2 ∨ n = 3 ∨ n = 4 ∨ n = 5 ∨ n = 6 := fun {n} h => (show ∀ n : Fin 7, n.1 = 0 ∨ n.1 = 1 ∨ n.1 = 2 ∨ n.1 = 3 ∨ n.1 = 4 ∨ n.1 = 5 ∨ n.1 = 6 by decide) ⟨n, h⟩
theorem lt8 : ∀ {n : Nat}, n < 8 → n = 0 ∨ n = 1 ∨ n = 2 ∨ n = 3 ∨ n = 4 ∨ n = 5 ∨ n = 6 ∨ n = 7 := fun {n} h => (show ∀ n : Fin 8, n.1 = 0 ∨ n.1 = 1 ∨ n.1 = 2 ∨ n.1 = 3 ∨ n.1 = 4 ∨ n.1 = 5 ∨ n.1 = 6 ∨ n.1 = 7 by decide) ⟨n, h⟩

theorem rd_ref2 {h : Hp} {a : Nat} {s t : Str} (e : h[a]? = some [.str s, .str t]) (hs : s.cps.all (· < 0x110000) = true) (ht : t.cps.all (· < 0x110000) = true) : (rd 7 h (.ref a)).isSome = true := by
  obtain ⟨x, hx⟩ := Option.isSome_iff_exists.mp (rd_str (n := 6) (h := h) hs)
  obtain ⟨y, hy⟩ := Option.isSome_iff_exists.mp (rd_str (n := 6) (h := h) ht)
  show (((h[a]?).bind fun vs => (rdAll (Mine.rd 6 h) vs).map PyData.list)).isSome = true
  rw [e]
  simp only [Option.bind_some, rdAll, hx, hy, Option.map_some, Option.isSome_some]

/-- a kind with a sign -/
theorem piece_ks {k : Str} {c : Nat} (hc : c < 128) (hk : k ∈ [(⟨#[97, 110, 121]⟩ : Str), ⟨#[101, 112, 115]⟩, ⟨#[115, 116, 97, 114]⟩, ⟨#[112, 108, 117, 115]⟩, ⟨#[111, 112, 116]⟩, ⟨#[99, 97, 116]⟩, ⟨#[97, 108, 116]⟩]) : Piece (.tup [.str k, .str ⟨#[c]⟩]) 120 := by
  have hr : (⟨#[c]⟩ : Str).cps.all (· < 0x110000) = true := by simp; omega
  simp only [List.mem_cons, List.not_mem_nil, or_false] at hk
  rcases hk with rfl | rfl | rfl | rfl | rfl | rfl | rfl <;> exact bad2 (fun d b ρ h => by kernel_rfl) fun h _ => rd_tup2 (by kernel_rfl) hr

theorem piece_spec (d : Nat) (way : Nat) (hw : way < 7) (a : Int) (h : Hp) : ∃ v m, (G (d + 3)).fn f_law_piece [.int way, .int a] h = some (.tup [v, .str ⟨#[m]⟩], h) ∧ Piece v m := by
  rw [law_piece_eq]
  unfold law_piece_s
  have g0 := fmod_lo (a + 97) (b := 128) (by decide)
  have g1 := fmod_hi (a + 97) (b := 128) (by decide)
  simp only [bi_add, Option.bind_some, bi_mod h _ (b := 128) (by decide), chr_int h g0 (by omega), ci_eq]
  obtain ⟨c, hc⟩ := Int.eq_ofNat_of_zero_le g0
  rw [hc] at g1 ⊢
  have hc1 : c < 128 := by omega
  rw [show ((c : Int)).toNat = c from rfl]
  have m7 := fmod_lo a (b := 7) (by decide)
  have m7' := fmod_hi a (b := 7) (by decide)
  have m8 := fmod_lo a (b := 8) (by decide)
  have m8' := fmod_hi a (b := 8) (by decide)
  rcases lt7 hw with rfl | rfl | rfl | rfl | rfl | rfl | rfl
  · obtain ⟨v, e, p⟩ := leaf_spec d a h
    refine ⟨v, _, ?_, p⟩
    rw [show (((0 : Nat) : Int) == 0) = true from rfl]
    simp only [if_true]
    rw [show d + 1 + 1 = d + 2 from rfl, e]
    rfl
  · obtain ⟨v, e, p⟩ := unary_spec d a h
    refine ⟨v, _, ?_, p⟩
    rw [show (((1 : Nat) : Int) == 0) = false from rfl, show (((1 : Nat) : Int) == 1) = true from rfl]
    simp only [if_true, Bool.false_eq_true, if_false]
    rw [show d + 1 + 1 = d + 2 from rfl, e]
    rfl
  · obtain ⟨v, e, p⟩ := binary_spec d a h
    refine ⟨v, _, ?_, p⟩
    rw [show (((2 : Nat) : Int) == 0) = false from rfl, show (((2 : Nat) : Int) == 1) = false from rfl, show (((2 : Nat) : Int) == 2) = true from rfl]
    simp only [if_true, Bool.false_eq_true, if_false]
    rw [show d + 1 + 1 = d + 2 from rfl, e]
    rfl
  · have hq : cmpop .In (V.str ⟨#[c]⟩) (V.str ⟨#[97, 98, 99, 100, 101, 102, 103, 104, 105, 106, 107, 108, 109, 110, 111, 112, 113, 114, 115, 116, 117, 118, 119, 120, 121, 122, 48, 49, 50, 51, 52, 53, 54, 55, 56, 57]⟩) h = some (decide (c ∈ plainS)) := congrArg some (contains_one (S plainS) c)
    by_cases hp : c ∈ plainS
    · refine ⟨_, 118, ?_, piece_chr hp⟩
      rw [hq, decide_eq_true hp]
      rfl
    · refine ⟨_, 120, ?_, piece_bchr (s := ⟨#[c]⟩) ?_ (by simp; omega)⟩
      · rw [hq, decide_eq_false hp]
        rfl
      · rw [contains_one, S_list, decide_eq_false hp]; simp
  · obtain ⟨k, hk⟩ := Int.eq_ofNat_of_zero_le m7
    rw [bi_mod h a (b := 7) (by decide)]
    rw [hk] at m7' ⊢
    rcases lt7 (show k < 7 by omega) with rfl | rfl | rfl | rfl | rfl | rfl | rfl <;> exact ⟨_, 120, rfl, piece_ks hc1 (by simp)⟩
  · obtain ⟨k, hk⟩ := Int.eq_ofNat_of_zero_le m8
    rw [bi_mod h a (b := 8) (by decide)]
    rw [hk] at m8' ⊢
    rcases lt8 (show k < 8 by omega) with rfl | rfl | rfl | rfl | rfl | rfl | rfl | rfl
    · exact ⟨_, 120, rfl, bad2 (fun d b ρ h => by kernel_rfl) fun h _ => rd_tup2 (by kernel_rfl) (by kernel_rfl)⟩
    · exact ⟨_, 120, rfl, bad2 (fun d b ρ h => by kernel_rfl) fun h _ => rd_tup2 (by kernel_rfl) (by kernel_rfl)⟩
    · exact ⟨_, 120, rfl, piece_bchr (by kernel_rfl) (by kernel_rfl)⟩
    · exact ⟨_, 120, rfl, piece_bchr (by kernel_rfl) (by kernel_rfl)⟩
    · exact ⟨_, 120, rfl, bad2 (fun d b ρ h => by kernel_rfl) fun h _ => rd_tup2 (by kernel_rfl) (by kernel_rfl)⟩
    · exact ⟨_, 120, rfl, bad2 (fun d b ρ h => by kernel_rfl) fun h _ => rd_tup2 (by kernel_rfl) (by kernel_rfl)⟩
    · exact ⟨_, 120, rfl, bad2 (fun d b ρ h => by kernel_rfl) fun h _ => rd_tup2 (by kernel_rfl) (by kernel_rfl)⟩
    · exact ⟨_, 120, rfl, bad2 (fun d b ρ h => by kernel_rfl) fun h _ => rd_tup2 (by kernel_rfl) (by kernel_rfl)⟩
  · obtain ⟨k, hk⟩ := Int.eq_ofNat_of_zero_le m8
    rw [bi_mod h a (b := 8) (by decide)]
    rw [hk] at m8' ⊢
    rcases lt8 (show k < 8 by omega) with rfl | rfl | rfl | rfl | rfl | rfl | rfl | rfl
    · exact ⟨_, 120, rfl, bad1 (fun d b ρ h => by kernel_rfl) fun h t => rd_ref2 t.l0 (by kernel_rfl) (by kernel_rfl)⟩
    · exact ⟨_, 120, rfl, bad1 (fun d b ρ h => by kernel_rfl) fun h _ => by kernel_rfl⟩
    · exact ⟨_, 120, rfl, bad2 (fun d b ρ h => by kernel_rfl) fun h _ => by kernel_rfl⟩
    · exact ⟨_, 120, rfl, bad1 (fun d b ρ h => by kernel_rfl) fun h _ => by kernel_rfl⟩
    · exact ⟨_, 120, rfl, bad1 (fun d b ρ h => by kernel_rfl) fun h _ => by kernel_rfl⟩
    · exact ⟨_, 120, rfl, bad2 (fun d b ρ h => by kernel_rfl) fun h _ => by kernel_rfl⟩
    · exact ⟨_, 120, rfl, bad2 (fun d b ρ h => by kernel_rfl) fun h _ => by kernel_rfl⟩
    · exact ⟨_, 120, rfl, bad1 (fun d b ρ h => by kernel_rfl) fun h t => rd_ref2 t.l1 (by kernel_rfl) (by kernel_rfl)⟩
end Mine
end

section
set_option autoImplicit false
set_option maxRecDepth 100000
namespace Mine
open PySem

abbrev Pr17 := V × Nat
noncomputable def pairV (ps : List Pr17) : List V := ps.map fun p => .tup [p.1, .str ⟨#[p.2]⟩]
noncomputable def AllPc (ps : List Pr17) : Prop := ∀ p ∈ ps, Piece p.1 p.2

theorem pairV_app (a b : List Pr17) : pairV a ++ pairV b = pairV (a ++ b) := by simp [pairV]
theorem cutL_map {α β : Type} (f : α → β) (l : List α) (lo hi : Option Int) : cutL (l.map f) lo hi = (cutL l lo hi).map f := by
  simp only [cutL, List.length_map, List.map_take, List.map_drop]
theorem cutL_mem {α : Type} {l : List α} {lo hi : Option Int} {x : α} (h : x ∈ cutL l lo hi) : x ∈ l := List.mem_of_mem_drop (List.mem_of_mem_take h)
theorem cutL_le {α : Type} (l : List α) (lo hi : Option Int) : (cutL l lo hi).length ≤ l.length := by
  simp only [cutL, List.length_take, List.length_drop]; omega

/-- the list of pairs at a -/
structure Done (h : Hp) (a : Nat) (ps : List Pr17) (n : Nat) : Prop where
  at_ : h[a]? = some (pairV ps)
  all : AllPc ps
  len : ps.length ≤ n
theorem Done.app {h : Hp} {a : Nat} {ps : List Pr17} {n : Nat} (x : Done h a ps n) (L : Hp) : Done (h ++ L) a ps n := ⟨get_pre L x.at_, x.all, x.len⟩
theorem Done.add {h : Hp} {a c : Nat} {ps qs : List Pr17} {n m : Nat} (x : Done h a ps n) (y : Done h c qs m) (hn : n + m ≤ 1000) : binop .Add (.ref a) (.ref c) h = some (.ref h.length, h ++ [pairV (ps ++ qs)]) ∧ Done (h ++ [pairV (ps ++ qs)]) h.length (ps ++ qs) (n + m) := by
  have h1 := x.len
  have h2 := y.len
  refine ⟨?_, get_last h _, ?_, by simp; omega⟩
  · rw [bl_add h x.at_ y.at_ (by rw [sizeLine_val]; simp [pairV]; omega), pairV_app]
  · intro p hp
    rcases List.mem_append.mp hp with q | q
    · exact x.all p q
    · exact y.all p q
theorem Done.new {h : Hp} {ps : List Pr17} (hp : AllPc ps) : Done (h ++ [pairV ps]) h.length ps ps.length := ⟨get_last h _, hp, Nat.le_refl _⟩
theorem Done.slice {h : Hp} {a : Nat} {ps : List Pr17} {n : Nat} (x : Done h a ps n) {l u : V} {lo hi : Option Int} (e1 : partV l = some lo) (e2 : partV u = some hi) : ∃ qs, slice (.ref a) l u .none h = some (.ref h.length, h ++ [pairV qs]) ∧ Done (h ++ [pairV qs]) h.length qs n := by
  refine ⟨cutL ps lo hi, ?_, get_last h _, fun p hp => x.all p (cutL_mem hp), Nat.le_trans (cutL_le _ _ _) x.len⟩
  simp only [Mine.slice, e1, e2, Option.bind_some, x.at_]
  rw [pairV, cutL_map]
  rfl

/-! the grown list -/
structure Grow (ns : List Int) (H : Hp) (i : Nat) (ρ : Rho) (h : Hp) : Prop where
  script : ρ n_script = some (.ref 2)
  pre : ∃ L, h = H ++ L
  done : ∃ a ps, ρ n_done = some (.ref a) ∧ Done h a ps (2 ^ i * 2 - 1)


theorem grow_step (d b : Nat) {ns : List Int} {H : Hp} (h0 : H[2]? = some (ns.map V.int)) {i : Nat} (hi : i < 3) {ρ : Rho} {h : Hp} (I : Grow ns H i ρ h) :
    ∃ ρ' h', law_grown_l75 (d + 1) b (.int (5 + i)) ρ h = some (.next, ρ', h') ∧ Grow ns H (i + 1) ρ' h' := by
  obtain ⟨L, rfl⟩ := I.pre
  obtain ⟨a, ps, ha, D⟩ := I.done
  have hs : (H ++ L)[2]? = some (ns.map V.int) := get_pre L h0
  have hn : 2 ^ (i + 1) * 2 = 2 ^ i * 2 + 2 ^ i * 2 := by rw [Nat.pow_succ]; omega
  have hp1 : 1 ≤ 2 ^ i := Nat.one_le_two_pow
  have hp4 : 2 ^ i ≤ 4 := by
    have : i = 0 ∨ i = 1 ∨ i = 2 := by omega
    rcases this with rfl | rfl | rfl <;> decide
  unfold law_grown_l75
  have c1 : (G (d + 2)).fn f_law_cell [.ref 2, .int (5 + i)] (H ++ L) = some (.int (cell ns (5 + i)), H ++ L) := by
    have := cell_spec d ns (5 + i) (H ++ L) hs
    rw [show (((5 + i : Nat) : Int)) = 5 + (i : Int) by omega] at this
    exact this
  have c2 : (G (d + 2)).fn f_law_cell [.ref 2, .int (5 + i + 3)] (H ++ L) = some (.int (cell ns (8 + i)), H ++ L) := by
    have := cell_spec d ns (8 + i) (H ++ L) hs
    rw [show (((8 + i : Nat) : Int)) = 5 + (i : Int) + 3 by omega] at this
    exact this
  simp only [I.script, Option.bind_some, show d + 1 + 1 = d + 2 from rfl, c1, bi_add, c2, bi_mod _ _ (b := 5) (by decide), ci_eq, ha]
  generalize (cell ns (5 + i)).fmod 5 = way
  generalize cell ns (8 + i) = c
  have fin : ∀ (h' : Hp) (a' : Nat) (ps' : List Pr17) (m : Nat), (∃ L, h' = H ++ L) → Done h' a' ps' m → m ≤ 2 ^ (i + 1) * 2 - 1 →
      Grow ns H (i + 1) (upd (upd (upd (upd ρ n_i (.int (5 + i))) n_way (.int way)) n_a (.int c)) n_done (.ref a')) h' := fun h' a' ps' m hpre D' hm =>
    ⟨by simp only [upd, ne_law_grown, if_false]; exact I.script, hpre, a', ps', by simp [upd], D'.at_, D'.all, Nat.le_trans D'.len hm⟩
  by_cases w1 : way = 1
  · subst w1
    obtain ⟨v, e, p⟩ := unary_spec d c (H ++ L)
    have D2 : Done (H ++ L ++ [pairV [(v, 117)]]) (H ++ L).length [(v, 117)] 1 := Done.new (fun q hq => by simp at hq; subst hq; exact p)
    obtain ⟨e3, D3⟩ := (D.app [pairV [(v, 117)]]).add D2 (by omega)
    simp only [BEq.rfl, if_true, e, Option.bind_some]
    rw [show [V.tup [v, V.str ⟨#[117]⟩]] = pairV [(v, 117)] from rfl, e3]
    exact ⟨_, _, rfl, fin _ _ _ _ ⟨L ++ [pairV [(v, 117)]] ++ [pairV (ps ++ [(v, 117)])], by simp⟩ D3 (by omega)⟩
  · have w1' : (way == 1) = false := by simpa using w1
    simp only [w1', Bool.false_eq_true, if_false]
    by_cases w2 : way = 2
    · subst w2
      obtain ⟨v, e, p⟩ := leaf_spec d c (H ++ L)
      obtain ⟨v2, e2, p2⟩ := binary_spec d c (H ++ L)
      have D2 : Done (H ++ L ++ [pairV [(v, 118), (v2, 98)]]) (H ++ L).length [(v, 118), (v2, 98)] 2 := Done.new (fun q hq => by simp at hq; rcases hq with rfl | rfl; exact p; exact p2)
      obtain ⟨e3, D3⟩ := (D.app [pairV [(v, 118), (v2, 98)]]).add D2 (by omega)
      simp only [BEq.rfl, if_true, e, e2, Option.bind_some]
      rw [show [V.tup [v, V.str ⟨#[118]⟩], V.tup [v2, V.str ⟨#[98]⟩]] = pairV [(v, 118), (v2, 98)] from rfl, e3]
      exact ⟨_, _, rfl, fin _ _ _ _ ⟨L ++ [pairV [(v, 118), (v2, 98)]] ++ [pairV (ps ++ [(v, 118), (v2, 98)])], by simp⟩ D3 (by omega)⟩
    · have w2' : (way == 2) = false := by simpa using w2
      simp only [w2', Bool.false_eq_true, if_false]
      by_cases w3 : way = 3
      · subst w3
        obtain ⟨v, e, p⟩ := leaf_spec d c (H ++ L)
        have D1 : Done (H ++ L ++ [pairV [(v, 118)]]) (H ++ L).length [(v, 118)] 1 := Done.new (fun q hq => by simp at hq; subst hq; exact p)
        obtain ⟨e3, D3⟩ := D1.add (D.app [pairV [(v, 118)]]) (by omega)
        obtain ⟨v2, e2, p2⟩ := binary_spec d c (H ++ L ++ [pairV [(v, 118)]] ++ [pairV ([(v, 118)] ++ ps)])
        have D4 : Done (H ++ L ++ [pairV [(v, 118)]] ++ [pairV ([(v, 118)] ++ ps)] ++ [pairV [(v2, 98)]]) (H ++ L ++ [pairV [(v, 118)]] ++ [pairV ([(v, 118)] ++ ps)]).length [(v2, 98)] 1 := Done.new (fun q hq => by simp at hq; subst hq; exact p2)
        obtain ⟨e5, D5⟩ := (D3.app [pairV [(v2, 98)]]).add D4 (by omega)
        simp only [BEq.rfl, if_true, e, Option.bind_some]
        rw [show [V.tup [v, V.str ⟨#[118]⟩]] = pairV [(v, 118)] from rfl, e3]
        simp only [Option.bind_some, e2]
        rw [show [V.tup [v2, V.str ⟨#[98]⟩]] = pairV [(v2, 98)] from rfl, e5]
        exact ⟨_, _, rfl, fin _ _ _ _ ⟨L ++ [pairV [(v, 118)]] ++ [pairV ([(v, 118)] ++ ps)] ++ [pairV [(v2, 98)]] ++ [pairV ([(v, 118)] ++ ps ++ [(v2, 98)])], by simp⟩ D5 (by omega)⟩
      · have w3' : (way == 3) = false := by simpa using w3
        simp only [w3', Bool.false_eq_true, if_false]
        by_cases w4 : way = 4
        · subst w4
          obtain ⟨e3, D3⟩ := D.add D (by omega)
          obtain ⟨v2, e2, p2⟩ := binary_spec d c (H ++ L ++ [pairV (ps ++ ps)])
          have D4 : Done (H ++ L ++ [pairV (ps ++ ps)] ++ [pairV [(v2, 98)]]) (H ++ L ++ [pairV (ps ++ ps)]).length [(v2, 98)] 1 := Done.new (fun q hq => by simp at hq; subst hq; exact p2)
          obtain ⟨e5, D5⟩ := (D3.app [pairV [(v2, 98)]]).add D4 (by omega)
          simp only [BEq.rfl, if_true, e3, Option.bind_some, e2]
          rw [show [V.tup [v2, V.str ⟨#[98]⟩]] = pairV [(v2, 98)] from rfl, e5]
          refine ⟨_, _, rfl, fin _ _ _ _ ⟨L ++ [pairV (ps ++ ps)] ++ [pairV [(v2, 98)]] ++ [pairV (ps ++ ps ++ [(v2, 98)])], by simp⟩ D5 ?_⟩
          omega
        · have w4' : (way == 4) = false := by simpa using w4
          simp only [w4', Bool.false_eq_true, if_false]
          exact ⟨_, _, rfl, by simp only [upd, ne_law_grown, if_false]; exact I.script, ⟨L, rfl⟩, a, ps, by simp only [upd, ne_law_grown, if_false]; exact ha, D.at_, D.all, Nat.le_trans D.len (by omega)⟩
end Mine
end

section
set_option autoImplicit false
set_option maxRecDepth 100000
namespace Mine
open PySem

theorem grown_spec (d : Nat) (ns : List Int) (h : Hp) (h0 : h[2]? = some (ns.map V.int)) : ∃ a ps L, (G (d + 3)).fn f_law_grown [.ref 2] h = some (.ref a, h ++ L) ∧ Done (h ++ L) a ps 15 := by
  rw [law_grown_eq]
  unfold law_grown_s
  have c1 := cell_spec d ns 4 h h0
  rw [show ((4 : Nat) : Int) = 4 from rfl] at c1
  obtain ⟨v, e, p⟩ := leaf_spec d (cell ns 4) h
  simp only [show d + 1 + 1 = d + 2 from rfl, c1, Option.bind_some, e, rA2 (m := 5) (n := 8) (by decide) (by decide)]
  have D2 : Done (h ++ [pairV [(v, 118)]]) h.length [(v, 118)] 1 := Done.new (fun q hq => by simp at hq; subst hq; exact p)
  have er : rangeV 5 8 = rangeV 5 (5 + (3 : Nat)) := rfl
  have := loopS_rule (c := none) (all := rangeV 5 8) (f := law_grown_l75 (d + 1) h.length) (Grow ns h) (fun i x ρ h' hx hi => by
    rw [er] at hx
    have hlt : i < 3 := by
      have h1 := (List.getElem?_eq_some_iff.mp hx).1
      rw [range_len] at h1; exact h1
    rw [range_at hlt] at hx
    cases hx
    obtain ⟨ρ', h'', e1, e2⟩ := grow_step d h.length h0 hlt hi
    exact ⟨rfl, ρ', h'', Or.inl e1, e2⟩) (fun _ _ _ => rfl) (ρ := upd (fun x => List.lookup x (List.zip [n_script] [V.ref 2]).reverse) n_done (V.ref h.length)) (h := h ++ [pairV [(v, 118)]])
    ⟨by simp only [upd, ne_law_grown, if_false]; rfl, ⟨_, rfl⟩, h.length, _, by simp [upd], D2⟩
  obtain ⟨ρ', h', e1, I⟩ := this
  rw [show [V.tup [v, V.str ⟨#[118]⟩]] = pairV [(v, 118)] from rfl, e1]
  rw [er, range_len] at I
  obtain ⟨L, rfl⟩ := I.pre
  obtain ⟨a, ps, ha, D⟩ := I.done
  simp only [Option.bind_some, ha]
  exact ⟨a, ps, L, rfl, D.at_, D.all, D.len⟩

noncomputable def marks (ps : List Pr17) : List Nat := ps.map (·.2)
theorem ok_loop (d b : Nat) {c : Option Nat} {all : List V} {h : Hp} (hc : chk c all h = true) : ∀ (ps : List Pr17) (ρ : Rho) (D : Nat), AllPc ps → ρ n_depth = some (.int D) →
    Good1 (loopS c all (postfix_ok_l5 (d + 1) b) (ps.map (·.1)) ρ h) h (runM D (marks ps))
  | [], ρ, D, _, hD => by
    show Good1 (loopS c all _ [] ρ h) h (some D)
    unfold loopS
    rw [if_pos hc]
    exact ⟨ρ, rfl, hD⟩
  | p :: ps, ρ, D, ha, hD => by
    have hp := (ha p (List.mem_cons_self ..)).run d b ρ h D hD
    show Good1 (loopS c all _ (p.1 :: ps.map (·.1)) ρ h) h (runM D (p.2 :: marks ps))
    rw [runM_cons]
    unfold loopS
    rw [if_pos hc]
    cases hs : stM p.2 D with
    | none =>
      rw [hs] at hp
      obtain ⟨ρ', e⟩ := hp
      rw [e]
      exact ⟨ρ', rfl⟩
    | some D' =>
      rw [hs] at hp
      obtain ⟨ρ', e, hD'⟩ := hp
      rw [e]
      exact ok_loop d b hc ps ρ' D' (fun q hq => ha q (List.mem_cons_of_mem _ hq)) hD'
theorem ok_spec (d a : Nat) (ps : List Pr17) (h : Hp) (ha : AllPc ps) (e : h[a]? = some (ps.map (·.1))) : (G (d + 3)).fn f_postfix_ok [.ref a] h = some (.bool (decide (runM 0 (marks ps) = some 1)), h) := by
  rw [postfix_ok_eq]
  unfold postfix_ok_s
  have hi : itemsOf (.ref a) h = some (ps.map (·.1), some a) := by simp only [itemsOf, e, Option.map_some]
  simp only [hi, Option.bind_some]
  have key := ok_loop d h.length (c := some a) (all := ps.map (·.1)) (chk_some e) ps (upd (fun x => List.lookup x (List.zip [n_post] [V.ref a]).reverse) n_depth (V.int 0)) 0 ha (by simp [upd])
  cases hr : runM 0 (marks ps) with
  | none =>
    rw [hr] at key
    obtain ⟨ρ', e1⟩ := key
    rw [e1]
    simp
  | some D =>
    rw [hr] at key
    obtain ⟨ρ', e1, hD⟩ := key
    rw [e1]
    simp only [Option.bind_some, hD, ci_eq]
    congr 3
    rw [Bool.eq_iff_iff]
    simp
    omega

/-! the due answer -/
theorem iterM_succ : ∀ (n : Nat) (l : List Nat), iterM (n + 1) l = stepM (iterM n l)
  | 0, l => rfl
  | n + 1, l => by
    show iterM (n + 1) (stepM l) = stepM (iterM n (stepM l))
    exact iterM_succ n (stepM l)
theorem stepM_len (l : List Nat) : (stepM l).length ≤ l.length :=
  Nat.le_trans (rpl_len _ _ (by decide) _ _ (Nat.le_refl _)) (rpl_len _ _ (by decide) _ _ (Nat.le_refl _))
theorem iterM_len : ∀ (n : Nat) (l : List Nat), (iterM n l).length ≤ l.length
  | 0, _ => Nat.le_refl _
  | n + 1, l => Nat.le_trans (iterM_len n (stepM l)) (stepM_len l)
theorem repl_S (l p z : List Nat) (h : Hp) (hp : z.length < p.length) (hl : l.length ≤ 1000) (hz : z.length ≤ 14) (hne : ((S p) == (S z)) = false) : replV (.str (S l)) (S p) (S z) h = some (.str (S (rpl p z 0 l)), h) := by
  have e : Txt.replace (S l) (S p) (S z) = S (rpl p z 0 l) := replace_list (S l) (S p) (S z) (by rw [S_len]; omega)
  have h1 := rpl_len p z hp _ l (Nat.le_refl _)
  unfold replV
  simp only
  rw [e, if_pos ⟨by rw [S_len]; exact hl, by rw [S_len]; exact hz, hne, by rw [S_len]; omega⟩]
theorem due_spec (d : Nat) (l : List Nat) (h : Hp) (hl : l.length ≤ 1000) : (G (d + 2)).fn f_law_due [.str (S l)] h = some (.bool (decide (iterM l.length l = [118])), h) := by
  rw [law_due_eq]
  unfold law_due_s
  have hi : itemsOf (.str (S l)) h = some (l.map fun c => V.str ⟨#[c]⟩, none) := rfl
  simp only [hi, Option.bind_some]
  obtain ⟨ρ', h', e1, I⟩ := loopS_rule (c := none) (all := l.map fun c => V.str ⟨#[c]⟩) (f := law_due_l107 d h.length) (fun i ρ h' => h' = h ∧ ρ n_left = some (.str (S (iterM i l)))) (fun i x ρ h' hx hi => by
    obtain ⟨rfl, hL⟩ := hi
    refine ⟨rfl, upd (upd ρ n_turn x) n_left (.str (S (iterM (i + 1) l))), h', Or.inl ?_, rfl, by simp [upd]⟩
    unfold law_due_l107
    have hle := Nat.le_trans (iterM_len i l) hl
    simp only [hL, Option.bind_some]
    rw [show (⟨#[118, 117]⟩ : Str) = S [118, 117] from rfl, show (⟨#[118]⟩ : Str) = S [118] from rfl, show (⟨#[118, 118, 98]⟩ : Str) = S [118, 118, 98] from rfl]
    rw [repl_S _ _ _ _ (by decide) hle (by decide) (by decide +kernel)]
    simp only [Option.bind_some]
    rw [repl_S _ _ _ _ (by decide) (Nat.le_trans (rpl_len _ _ (by decide) _ _ (Nat.le_refl _)) hle) (by decide) (by decide +kernel)]
    rw [iterM_succ]
    rfl) (fun _ _ _ => rfl) (ρ := upd (fun x => List.lookup x (List.zip [n_marks] [V.str (S l)]).reverse) n_left (V.str (S l))) (h := h) ⟨rfl, by simp [upd, iterM]⟩
  rw [e1]
  obtain ⟨rfl, hL⟩ := I
  rw [List.length_map] at hL
  simp only [Option.bind_some, hL, cs_eq]
  congr 3
  rw [Bool.eq_iff_iff]
  simp only [beq_iff_eq, decide_eq_true_eq]
  constructor
  · intro q
    have := congrArg (fun s : Str => s.cps.toList) q
    exact this
  · intro q
    rw [q]; rfl

/-! the tail of the law -/
theorem loopL_appC {h : Hp} {f : V → Hp → Option Hp} {v : V → V} {all : List V} {c : Option Nat} (hc : ∀ xs, chk c all (h ++ [xs]) = true) : ∀ (js : List V) (xs : List V), (∀ y ∈ js, ∀ xs, xs.length ≤ 100000 → f y (h ++ [xs]) = some (h ++ [xs ++ [v y]])) → xs.length + js.length ≤ 100000 → loopL c all f js (h ++ [xs]) = some (h ++ [xs ++ js.map v])
  | [], xs, _, _ => by simp [loopL, hc]
  | y :: js, xs, hf, hl => by
    simp only [List.length_cons] at hl
    simp only [loopL, hc, if_true, hf y (List.mem_cons_self ..) xs (by omega), Option.bind_some]
    rw [loopL_appC hc js (xs ++ [v y]) (fun z hz => hf z (List.mem_cons_of_mem _ hz)) (by simp; omega)]
    simp
theorem comp0 {h : Hp} {a : Nat} {ps : List Pr17} {n : Nat} (D : Done h a ps n) (hn : n ≤ 1000) : loopL (some a) (pairV ps) (fun x h1 => (idx x (V.int (0)) h1).bind fun v => appendTo h.length v h1) (pairV ps) (h ++ [[]]) = some (h ++ [ps.map (·.1)]) := by
  have hl := D.len
  have := loopL_appC (h := h) (c := some a) (all := pairV ps) (f := fun x h1 => (idx x (V.int (0)) h1).bind fun v => appendTo h.length v h1) (v := fun y => match y with | .tup (x :: _) => x | _ => y) (fun xs => chk_some (get_pre _ D.at_)) (pairV ps) [] (fun y hy xs hx => by
    obtain ⟨p, _, rfl⟩ := List.mem_map.mp hy
    show ((some p.1).bind fun v => appendTo h.length v (h ++ [xs])) = _
    simp only [Option.bind_some]
    rw [appendTo_last _ (by omega)]) (by simp [pairV]; omega)
  rw [this]
  simp [pairV, Function.comp_def]
theorem comp1 {h : Hp} {a : Nat} {ps : List Pr17} {n : Nat} (D : Done h a ps n) (hn : n ≤ 1000) : loopL (some a) (pairV ps) (fun x h1 => (idx x (V.int (1)) h1).bind fun v => appendTo h.length v h1) (pairV ps) (h ++ [[]]) = some (h ++ [(marks ps).map fun m => V.str ⟨#[m]⟩]) := by
  have hl := D.len
  have := loopL_appC (h := h) (c := some a) (all := pairV ps) (f := fun x h1 => (idx x (V.int (1)) h1).bind fun v => appendTo h.length v h1) (v := fun y => match y with | .tup [_, x] => x | _ => y) (fun xs => chk_some (get_pre _ D.at_)) (pairV ps) [] (fun y hy xs hx => by
    obtain ⟨p, _, rfl⟩ := List.mem_map.mp hy
    show ((some (V.str ⟨#[p.2]⟩)).bind fun v => appendTo h.length v (h ++ [xs])) = _
    simp only [Option.bind_some]
    rw [appendTo_last _ (by omega)]) (by simp [pairV]; omega)
  rw [this]
  simp [pairV, marks, Function.comp_def]
theorem strsOf_marks : ∀ l : List Nat, strsOf (l.map fun m => V.str ⟨#[m]⟩) = some (l.map fun m => (⟨#[m]⟩ : Str))
  | [] => rfl
  | m :: l => by simp only [List.map_cons, strsOf, strsOf_marks l, Option.map_some]
theorem foldl_len : ∀ (l : List Nat) (n : Nat), (l.map fun m => (⟨#[m]⟩ : Str)).foldl (fun a s => a + s.length + (⟨#[]⟩ : Str).length) n = n + l.length
  | [], n => by simp
  | m :: l, n => by
    rw [List.map_cons, List.foldl_cons, foldl_len l]
    simp [Str.length]
    omega
theorem join_marks (b : Nat) {h : Hp} {a : Nat} {l : List Nat} (e : h[a]? = some (l.map fun m => V.str ⟨#[m]⟩)) (hl : l.length ≤ 1000) : callM b m_join (.str ⟨#[]⟩) [.ref a] h = some (.str (S l), h) := by
  rw [join_str]
  simp only [e, Option.bind_some, strsOf_marks]
  have hj : JoinOk ⟨#[]⟩ (l.map fun m => (⟨#[m]⟩ : Str)) = true := by
    unfold JoinOk Builtin.Str.tooLong
    rw [List.foldl_toArray, foldl_len, sizeLine_val]
    simp
    omega
  rw [if_pos hj]
  congr 3
  unfold Txt.join Builtin.Str.glued
  have : ((((l.map fun m => (⟨#[m]⟩ : Str)).drop 1).foldl (fun acc p => acc ++ (⟨#[]⟩ : Str).cps ++ p.cps) ((l.map fun m => (⟨#[m]⟩ : Str)).headD Str.empty).cps)) = l.toArray := by
    rw [← Array.toList_inj, foldl_app ⟨#[]⟩]
    cases l with
    | nil => rfl
    | cons m l =>
      simp only [List.map_cons, List.headD_cons, List.drop_succ_cons, List.drop_zero, List.map_map]
      simp only [List.cons_append, List.nil_append, Function.comp_def, List.flatten_eq_flatMap, List.flatMap_map]
      simp
  rw [this]
  rfl

noncomputable def tail17 (d b : Nat) (dn : V) (h : Hp) : Option (V × Hp) :=
  (itemsOf dn h).bind fun q128 =>
  (loopL q128.2 q128.1 (fun x129 h130 => 
  (idx x129 (V.int (0)) h130).bind fun v132 =>
  appendTo h.length v132 h130) q128.1 (h ++ [[]])).bind fun h131 =>
  (slice (V.ref h.length) V.none V.none V.none h131).bind fun p133 =>
  (itemsOf dn p133.2).bind fun q134 =>
  (loopL q134.2 q134.1 (fun x135 h136 => 
  (idx x135 (V.int (1)) h136).bind fun v138 =>
  appendTo p133.2.length v138 h136) q134.1 (p133.2 ++ [[]])).bind fun h137 =>
  (callM b m_join (V.str ⟨#[]⟩) [(V.ref p133.2.length)] h137).bind fun p139 =>
  ((G (d + 1)).fn f_law_due [p139.1] p139.2).bind fun p140 =>
  ((G (d + 1)).fn f_postfix_ok [(V.ref h.length)] p140.2).bind fun p141 =>
  (callB b_isinstance [p141.1, (V.type "bool")] p141.2).bind fun p142 =>
  (truthV p142.1).bind fun t143 =>
  if (!t143) then
  some ((V.bool false), p142.2)
  else
  (cmpop .NotEq p141.1 p140.1 p142.2).bind fun t144 =>
  if t144 then
  some ((V.bool false), p142.2)
  else
  (cmpop .NotEq (V.ref h.length) p133.1 p142.2).bind fun t145 =>
  if t145 then
  some ((V.bool false), p142.2)
  else
  some ((V.bool true), p142.2)

theorem isi_bool (x : Bool) (h : Hp) : callB b_isinstance [.bool x, .type "bool"] h = some (.bool true, h) := by kernel_rfl
noncomputable def law17 (d : Nat) (a_script : V) (h : Hp) : Option (V × Hp) :=
let b := h.length
((G (d + 1)).fn f_law_grown [a_script] h).bind fun p115 =>
((G (d + 1)).fn f_law_cell [a_script, (V.int (0))] p115.2).bind fun p116 =>
(binop .Mod p116.1 (V.int (5)) p116.2).bind fun p117 =>
((G (d + 1)).fn f_law_cell [a_script, (V.int (1))] p117.2).bind fun p118 =>
(callB b_len [p115.1] p118.2).bind fun p119 =>
(binop .Add p119.1 (V.int (1)) p119.2).bind fun p120 =>
(binop .Mod p118.1 p120.1 p120.2).bind fun p121 =>
((G (d + 1)).fn f_law_cell [a_script, (V.int (2))] p121.2).bind fun p122 =>
(binop .Mod p122.1 (V.int (7)) p122.2).bind fun p123 =>
((G (d + 1)).fn f_law_cell [a_script, (V.int (3))] p123.2).bind fun p124 =>
((G (d + 1)).fn f_law_piece [p123.1, p124.1] p124.2).bind fun p125 =>
(cmpop .Eq p117.1 (V.int (1)) p125.2).bind fun t126 =>
if t126 then
(slice p115.1 V.none p121.1 V.none p125.2).bind fun p127 =>
tail17 d b p127.1 p127.2
else
(cmpop .Eq p117.1 (V.int (2)) p125.2).bind fun t146 =>
if t146 then
(unop .USub (V.int (1))).bind fun u147 =>
(slice p115.1 V.none u147 V.none p125.2).bind fun p148 =>
(slice p148.1 V.none p121.1 V.none p148.2).bind fun p149 =>
(unop .USub (V.int (1))).bind fun u150 =>
(slice p115.1 u150 V.none V.none p149.2).bind fun p151 =>
(binop .Add p149.1 p151.1 p151.2).bind fun p152 =>
(slice p148.1 p121.1 V.none V.none p152.2).bind fun p153 =>
(binop .Add p152.1 p153.1 p153.2).bind fun p154 =>
tail17 d b p154.1 p154.2
else
(cmpop .Eq p117.1 (V.int (3)) p125.2).bind fun t173 =>
if t173 then
(slice p115.1 V.none p121.1 V.none p125.2).bind fun p174 =>
(binop .Add p174.1 (V.ref p174.2.length) (p174.2 ++ [[p125.1]])).bind fun p175 =>
(slice p115.1 p121.1 V.none V.none p175.2).bind fun p176 =>
(binop .Add p175.1 p176.1 p176.2).bind fun p177 =>
tail17 d b p177.1 p177.2
else
(cmpop .Eq p117.1 (V.int (4)) p125.2).bind fun t196 =>
if t196 then
(slice p115.1 V.none p121.1 V.none p125.2).bind fun p197 =>
(binop .Add p197.1 (V.ref p197.2.length) (p197.2 ++ [[p125.1]])).bind fun p198 =>
(binop .Add p121.1 (V.int (1)) p198.2).bind fun p199 =>
(slice p115.1 p199.1 V.none V.none p199.2).bind fun p200 =>
(binop .Add p198.1 p200.1 p200.2).bind fun p201 =>
tail17 d b p201.1 p201.2
else
tail17 d b p115.1 p125.2

theorem law17_eq (d : Nat) (a : V) (h : Hp) : law_s d a h = law17 d a h := by kernel_rfl
theorem cutL_all {α : Type} (l : List α) : cutL l none none = l := by simp [cutL]
theorem tail_spec (d b : Nat) {h : Hp} {a : Nat} {ps : List Pr17} {n : Nat} (T : Top2 h) (D : Done h a ps n) (hn : n ≤ 1000) : ∃ H', tail17 (d + 2) b (.ref a) h = some (.bool true, H') := by
  have hl := D.len
  unfold tail17
  have hi : ∀ L : Hp, itemsOf (.ref a) (h ++ L) = some (pairV ps, some a) := fun L => by simp only [itemsOf, get_pre L D.at_, Option.map_some]
  have hi0 : itemsOf (.ref a) h = some (pairV ps, some a) := by simp only [itemsOf, D.at_, Option.map_some]
  have hsl : slice (V.ref h.length) V.none V.none V.none (h ++ [ps.map (·.1)]) = some (.ref (h ++ [ps.map (·.1)]).length, h ++ [ps.map (·.1)] ++ [ps.map (·.1)]) := by
    simp only [slice, partV, Option.bind_some, get_last, cutL_all]
  simp only [hi0, Option.bind_some, comp0 D hn, hsl]
  generalize hH : h ++ [ps.map (·.1)] ++ [ps.map (·.1)] = H2
  have hH2 : H2 = h ++ [ps.map (·.1), ps.map (·.1)] := by rw [← hH]; simp
  have D2 : Done H2 a ps n := by rw [hH2]; exact D.app _
  have hi2 : itemsOf (.ref a) H2 = some (pairV ps, some a) := by rw [hH2]; exact hi _
  have hp : H2[h.length]? = some (ps.map (·.1)) := by rw [hH2]; simp
  have hq : H2[(h ++ [ps.map (·.1)]).length]? = some (ps.map (·.1)) := by rw [← hH]; exact get_last _ _
  have T2 : Top2 H2 := by rw [hH2]; exact T.app _
  simp only [hi2, Option.bind_some, comp1 D2 hn, join_marks b (get_last H2 _) (show (marks ps).length ≤ 1000 by simp [marks]; omega)]
  rw [show d + 2 + 1 = d + 1 + 2 from rfl, due_spec (d + 1) _ _ (by simp [marks]; omega)]
  simp only [Option.bind_some]
  rw [show d + 1 + 2 = d + 3 from rfl, ok_spec d _ ps _ D.all (get_pre _ hp)]
  simp only [Option.bind_some, isi_bool]
  have hd : decide (runM 0 (marks ps) = some 1) = decide (iterM (marks ps).length (marks ps) = [118]) := by
    rw [Bool.eq_iff_iff]
    simp only [decide_eq_true_eq]
    exact (due_law _).symm
  rw [hd]
  simp only [truth_bool, Option.bind_some, Bool.not_true, Bool.false_eq_true, if_false, cb_ne, BEq.rfl]
  rw [cl_ne (get_pre _ hp) (get_pre _ hq) (fun v hv => by
    obtain ⟨p, hp1, rfl⟩ := List.mem_map.mp hv
    exact (D.all p hp1).rd _ (T2.app _))]
  exact ⟨_, rfl⟩

theorem run17 (ns : List Int) : ∃ H', (G 8).fn f_law [.ref 2] ([L0, L1] ++ [ns.map V.int]) = some (.bool true, H') := by
  rw [show (8 : Nat) = 6 + 2 from rfl, law_eq, law17_eq]
  unfold law17
  generalize hh : ([L0, L1] ++ [ns.map V.int] : Hp) = h
  have T : Top2 h := by rw [← hh]; exact ⟨rfl, rfl⟩
  have h0 : h[2]? = some (ns.map V.int) := by rw [← hh]; rfl
  obtain ⟨a, ps, L, e1, D⟩ := grown_spec 4 ns h h0
  have T1 := T.app L
  have h1 := get_pre L h0
  rw [show (6 : Nat) + 1 = 4 + 3 from rfl, e1]
  simp only [Option.bind_some]
  have c0 := cell_spec 5 ns 0 (h ++ L) h1
  have c1 := cell_spec 5 ns 1 (h ++ L) h1
  have c2 := cell_spec 5 ns 2 (h ++ L) h1
  have c3 := cell_spec 5 ns 3 (h ++ L) h1
  rw [show ((0 : Nat) : Int) = 0 from rfl] at c0
  rw [show ((1 : Nat) : Int) = 1 from rfl] at c1
  rw [show ((2 : Nat) : Int) = 2 from rfl] at c2
  rw [show ((3 : Nat) : Int) = 3 from rfl] at c3
  have hl : callB b_len [.ref a] (h ++ L) = some (.int ps.length, h ++ L) := by rw [len_ref _ D.at_]; simp [pairV]
  have hne : ((ps.length : Int) + 1) ≠ 0 := by omega
  have w0 := fmod_lo (cell ns 2) (b := 7) (by decide)
  have w1 := fmod_hi (cell ns 2) (b := 7) (by decide)
  obtain ⟨way, hway⟩ := Int.eq_ofNat_of_zero_le w0
  obtain ⟨v, m, ep, P⟩ := piece_spec 4 way (by omega) (cell ns 3) (h ++ L)
  simp only [show (4 : Nat) + 3 = 5 + 2 from rfl, c0, c1, c2, c3, Option.bind_some, hl, bi_add, bi_mod _ _ (b := 5) (by decide), bi_mod _ _ hne, bi_mod _ _ (b := 7) (by decide), hway]
  rw [show (5 : Nat) + 2 = 4 + 3 from rfl, ep]
  simp only [Option.bind_some, ci_eq]
  generalize (cell ns 0).fmod 5 = edit
  generalize (cell ns 1).fmod ((ps.length : Int) + 1) = at_
  have pn : partV V.none = some none := rfl
  have pi : ∀ i : Int, partV (.int i) = some (some i) := fun _ => rfl
  have one : AllPc [(v, m)] := fun q hq => by simp at hq; subst hq; exact P
  cases b1 : edit == 1
  · cases b2 : edit == 2
    · cases b3 : edit == 3
      · cases b4 : edit == 4
        · simp only [Bool.false_eq_true, if_false, Option.bind_some]
          exact tail_spec 4 _ T1 D (by decide)
        · simp only [Bool.false_eq_true, if_false, if_true, Option.bind_some]
          obtain ⟨q1, f1, D1⟩ := D.slice pn (pi at_)
          rw [f1]
          simp only [Option.bind_some]
          have D2 : Done (h ++ L ++ [pairV q1] ++ [pairV [(v, m)]]) (h ++ L ++ [pairV q1]).length [(v, m)] 1 := Done.new one
          obtain ⟨f3, D3⟩ := (D1.app [pairV [(v, m)]]).add D2 (by decide)
          rw [show [V.tup [v, V.str ⟨#[m]⟩]] = pairV [(v, m)] from rfl, f3]
          simp only [Option.bind_some]
          have D0 := ((D.app [pairV q1]).app [pairV [(v, m)]]).app [pairV (q1 ++ [(v, m)])]
          obtain ⟨q4, f4, D4⟩ := D0.slice (pi (at_ + 1)) pn
          rw [f4]
          simp only [Option.bind_some]
          obtain ⟨f5, D5⟩ := (D3.app [pairV q4]).add D4 (by decide)
          rw [f5]
          simp only [Option.bind_some]
          exact tail_spec 4 _ ((((T1.app _).app _).app _).app _ |>.app _) D5 (by decide)
      · simp only [Bool.false_eq_true, if_false, if_true, Option.bind_some]
        obtain ⟨q1, f1, D1⟩ := D.slice pn (pi at_)
        rw [f1]
        simp only [Option.bind_some]
        have D2 : Done (h ++ L ++ [pairV q1] ++ [pairV [(v, m)]]) (h ++ L ++ [pairV q1]).length [(v, m)] 1 := Done.new one
        obtain ⟨f3, D3⟩ := (D1.app [pairV [(v, m)]]).add D2 (by decide)
        rw [show [V.tup [v, V.str ⟨#[m]⟩]] = pairV [(v, m)] from rfl, f3]
        simp only [Option.bind_some]
        have D0 := ((D.app [pairV q1]).app [pairV [(v, m)]]).app [pairV (q1 ++ [(v, m)])]
        obtain ⟨q4, f4, D4⟩ := D0.slice (pi at_) pn
        rw [f4]
        simp only [Option.bind_some]
        obtain ⟨f5, D5⟩ := (D3.app [pairV q4]).add D4 (by decide)
        rw [f5]
        simp only [Option.bind_some]
        exact tail_spec 4 _ ((((T1.app _).app _).app _).app _ |>.app _) D5 (by decide)
    · simp only [Bool.false_eq_true, if_false, if_true, Option.bind_some, usub_int]
      obtain ⟨q1, f1, D1⟩ := D.slice pn (pi (-1))
      rw [f1]
      simp only [Option.bind_some]
      obtain ⟨q2, f2, D2⟩ := D1.slice pn (pi at_)
      rw [f2]
      simp only [Option.bind_some]
      obtain ⟨q3, f3, D3⟩ := ((D.app [pairV q1]).app [pairV q2]).slice (pi (-1)) pn
      rw [f3]
      simp only [Option.bind_some]
      obtain ⟨f4, D4⟩ := (D2.app [pairV q3]).add D3 (by decide)
      rw [f4]
      simp only [Option.bind_some]
      obtain ⟨q5, f5, D5⟩ := (((D1.app [pairV q2]).app [pairV q3]).app [pairV (q2 ++ q3)]).slice (pi at_) pn
      rw [f5]
      simp only [Option.bind_some]
      obtain ⟨f6, D6⟩ := (D4.app [pairV q5]).add D5 (by decide)
      rw [f6]
      simp only [Option.bind_some]
      exact tail_spec 4 _ (((((T1.app _).app _).app _).app _ |>.app _).app _) D6 (by decide)
  · simp only [if_true, Option.bind_some]
    obtain ⟨q1, f1, D1⟩ := D.slice pn (pi at_)
    rw [f1]
    simp only [Option.bind_some]
    exact tail_spec 4 _ (T1.app _) D1 (by decide)
end Mine
end

open PySem PySem.W PyProof.Rows
set_option maxRecDepth 100000
set_option maxHeartbeats 8000000
namespace Mine
open_top hdT for PySem.Challenge.rw_k12_0017
theorem topT (P : Params) : TopK PySem.Challenge.pw_k12_0017 (hdT.heap_39 P) (esOf (hdT.heap_39 P)) tv [39, 46] := by
  refine ⟨⟨_, _, rfl, rfl⟩, by kernel_rfl, by kernel_rfl, AllP.all ?_⟩
  refine And.intro ⟨21, _, _, 20, _, _, _, rfl, rfl, rfl, ⟨rfl, rfl, rfl, rfl, rfl, rfl, rfl, rfl, bind_1 rfl (fun _ => rfl), rfl, rfl⟩, rfl, rfl, rfl, rfl⟩ ?_
  refine And.intro ⟨28, _, _, 27, _, _, _, rfl, rfl, rfl, ⟨rfl, rfl, rfl, rfl, rfl, rfl, rfl, rfl, bind_1 rfl (fun _ => rfl), rfl, rfl⟩, rfl, rfl, rfl, rfl⟩ ?_
  refine And.intro ⟨54, _, _, 53, _, _, _, rfl, rfl, rfl, ⟨rfl, rfl, rfl, rfl, rfl, rfl, rfl, rfl, bind_2 rfl (fun _ _ => rfl), rfl, rfl⟩, rfl, rfl, rfl, rfl⟩ ?_
  refine And.intro ⟨61, _, _, 60, _, _, _, rfl, rfl, rfl, ⟨rfl, rfl, rfl, rfl, rfl, rfl, rfl, rfl, bind_1 rfl (fun _ => rfl), rfl, rfl⟩, rfl, rfl, rfl, rfl⟩ ?_
  refine And.intro ⟨68, _, _, 67, _, _, _, rfl, rfl, rfl, ⟨rfl, rfl, rfl, rfl, rfl, rfl, rfl, rfl, bind_1 rfl (fun _ => rfl), rfl, rfl⟩, rfl, rfl, rfl, rfl⟩ ?_
  refine And.intro ⟨75, _, _, 74, _, _, _, rfl, rfl, rfl, ⟨rfl, rfl, rfl, rfl, rfl, rfl, rfl, rfl, bind_1 rfl (fun _ => rfl), rfl, rfl⟩, rfl, rfl, rfl, rfl⟩ ?_
  refine And.intro ⟨82, _, _, 81, _, _, _, rfl, rfl, rfl, ⟨rfl, rfl, rfl, rfl, rfl, rfl, rfl, rfl, bind_2 rfl (fun _ _ => rfl), rfl, rfl⟩, rfl, rfl, rfl, rfl⟩ ?_
  refine And.intro ⟨89, _, _, 88, _, _, _, rfl, rfl, rfl, ⟨rfl, rfl, rfl, rfl, rfl, rfl, rfl, rfl, bind_1 rfl (fun _ => rfl), rfl, rfl⟩, rfl, rfl, rfl, rfl⟩ ?_
  refine And.intro ⟨96, _, _, 95, _, _, _, rfl, rfl, rfl, ⟨rfl, rfl, rfl, rfl, rfl, rfl, rfl, rfl, bind_1 rfl (fun _ => rfl), rfl, rfl⟩, rfl, rfl, rfl, rfl⟩ ?_
  refine And.intro ⟨101, _, _, 100, _, _, _, rfl, rfl, rfl, ⟨rfl, rfl, rfl, rfl, rfl, rfl, rfl, rfl, bind_1 rfl (fun _ => rfl), rfl, rfl⟩, rfl, rfl, rfl, rfl⟩ ?_
  exact True.intro
theorem topL (P : Params) : ∀ p ∈ ([L0, L1] : Hp).zip [39, 46], TopL (hdT.heap_39 P) [39, 46] p := by
  refine AllP.all ?_
  exact And.intro ⟨_, _, rfl, rfl, by decide, _, _, rfl⟩ (And.intro ⟨_, _, rfl, rfl, by decide, _, _, rfl⟩ (True.intro))
theorem runT (ns : List Int) : ∃ H', (globs PySem.Challenge.pw_k12_0017 (fun x => tv.lookup x) false 8).fn "law" [.ref ([L0, L1] : Hp).length] (([L0, L1] : Hp) ++ [ns.map V.int]) = some (.bool true, H') := by
  rw [show ("law" : Str) = f_law by decide +kernel]
  exact run17 ns
end Mine
theorem PySem.Challenge.cw_k12_0017_holds : PySem.Challenge.rw_k12_0017.Holds :=
  Mine.hdT (by
    k_fill
    intro w s₀ s₁ mg mb G Y fa o pm cd doc dV kV ho hd hcd hD hmg hg args vals as hpre hlay hrd hwl hlo
    have KX := kIn_of Y
    refine Ground.open G ?_
    intro T B D TE TW
    clear hd hcd hD
    wrow_args hpre hlay hrd hwl hlo
    rename List Int => ns
    rename IntsAre _ _ => hI
    rename Well _ _ _ _ => hw
    rename Heap.IsList _ _ _ => hL
    rename ¬ _ => hlen
    obtain ⟨H', hrun⟩ := Mine.runT ns
    exact Mine.law_glue (Mine.topT w.params) rfl (by decide) (Mine.topL w.params) KX T.g T.b T.builtins T.nolimit hmg rfl (Mine.plain_of hw hL) hI (by omega) (by decide) hrun fun h' tk hk => Mine.good_end (fun _ => rfl) (by first | kernel_rfl | exact postW_of rfl (w_eq_bool (w_res rfl) w_lit) rfl) hk hg)
